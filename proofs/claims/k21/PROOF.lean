import PyProof.Rows.All
import Wide.All
import OpenK.AllK
import Wide.FinOn
import HandS.ForMost
import HandS.Wide
import HandS.Style
import HandS.NoneIn
import HandS.IsInst
import HandS.Evl
import KE.RegKIsAll
import KE.RegKSuper
import KE.KSuper
import HandS.ClsMeth
import HandS.Nested
import HandS.Star
import KE.KTypeName
import HandS.OwnEq
import PySem.Challenge.RW_fourthlike_k21_multiplied_the_power_stay
set_option Elab.async false
set_option linter.all false
set_option maxRecDepth 100000
set_option maxHeartbeats 4000000
/-! step lemmas: each opens one word of a reading -/
namespace HX
open PySem PySem.Spec PyProof.Rows L2

/-! ### rules for any kind of values -/
def CMulU (i j : Int) : Prop := IntMulOk i j
theorem CMulU.l {i j : Int} (h : -(2 ^ 64) < i ∧ i < 2 ^ 64) : CMulU i j := L2.CMul.ok (.inl h)
theorem CMulU.r {i j : Int} (h : -(2 ^ 64) < j ∧ j < 2 ^ 64) : CMulU i j := L2.CMul.ok (.inr h)
theorem CMulU.w {i j : Int} (h : i.natAbs.log2 + j.natAbs.log2 < 1000000) : CMulU i j := L2.CMulW.ok h
section
variable {X : Cx}
theorem op_mulU : OpR X (binaryOp .Mult) (rI CMulU fun i j => .int (i * j)) := opI fun _ _ _ _ _ _ _ hc q => mul_int q hc
abbrev op_fdivU : OpR X (binaryOp .FloorDiv) (rI CDiv fun i j => .int (i / j)) := op_fdiv
def rMod : R2 := rI (fun _ j => 0 < j) fun i j => .int (i % j)
theorem op_modU : OpR X (binaryOp .Mod) rMod := op_mod
def rAddS : R2 := fun x y H Q => ∃ i j, x = .str i ∧ y = .str j ∧ i.length + j.length ≤ sizeLine ∧ Q (.str (i ++ j)) H
def rAddU (K : PySem.W.Frag) : R2 := fun x y H Q => rI0 (fun i j => .int (i + j)) x y H Q ∨ rAddS x y H Q ∨ rCat x y H Q ∨ rCatT K x y H Q
theorem op_addU : OpR X (binaryOp .Add) (rAddU X.K) := op_add.or (OpR.or (r := rAddS) op_add_str (op_cat.or op_catT))
def rEqU (K : PySem.W.Frag) : R2 := fun x y H Q => rEq x y H Q ∨ rEqD K x y H Q
def rNeU (K : PySem.W.Frag) : R2 := fun x y H Q => rNe x y H Q ∨ rNeD K x y H Q
theorem op_eqU (hu : X.A.units + 64 < cLine) : OpR X (compareOp .Eq) (rEqU X.K) := op_eq.or (op_eqD hu)
theorem op_neU (hu : X.A.units + 64 < cLine) : OpR X (compareOp .NotEq) (rNeU X.K) := op_ne.or (op_neD hu)
def rLenS (K : PySem.W.Frag) : List V → Hp → VK → Prop := fun xs H Q => ∃ p ys, xs = [.ref p] ∧ (SqL K H p ys ∨ SqT K H p ys) ∧ Q (.int ys.length) H
def rLenT : List V → Hp → VK → Prop := fun xs H Q => ∃ z, xs = [.str z] ∧ z.length ≤ sizeLine ∧ Q (.int z.length) H
def rLenU (K : PySem.W.Frag) : List V → Hp → VK → Prop := fun xs H Q => rLenS K xs H Q ∨ rLenT xs H Q
theorem call_lenU : CallR X (.builtin "len") (rLenU X.K) := CallR.or (r := rLenS X.K) call_len_seq (r' := rLenT) call_len_str
def rSlU (K : PySem.W.Frag) : V → Option Int → Option Int → Hp → VK → Prop := fun x lo hi H Q => rSlL K x lo hi H Q ∨ rSlT K x lo hi H Q ∨ rSlS x lo hi H Q
theorem sl_U : SlR X (rSlU X.K) := sl_list.or (sl_tup.or sl_str)
def rInSg : R2 := fun x y H Q => ∃ (c : Nat) (z : Str), x = .str ⟨#[c]⟩ ∧ y = .str z ∧ Q (.bl (decide (c ∈ z.cps.toList))) H
def rNiSg : R2 := fun x y H Q => ∃ (c : Nat) (z : Str), x = .str ⟨#[c]⟩ ∧ y = .str z ∧ Q (.bl (!decide (c ∈ z.cps.toList))) H
def rInU (K : PySem.W.Frag) : R2 := fun x y H Q => rIn K false x y H Q ∨ rInSg x y H Q
def rNiU (K : PySem.W.Frag) : R2 := fun x y H Q => rIn K true x y H Q ∨ rNiSg x y H Q
theorem op_inU : OpR X (compareOp .In) (rInU X.K) := OpR.or op_in_seq (r' := rInSg) op_in_sign
theorem op_notInU : OpR X (compareOp .NotIn) (rNiU X.K) := OpR.or op_notIn_seq (r' := rNiSg) op_notIn_sign
end

/-! ### the same, the written part named (a comprehension's block has the same) -/
section
variable {X : Cx} {K : PySem.W.Frag}
theorem op_addK (hK : X.K = K := by rfl) : OpR X (binaryOp .Add) (rAddU K) := by cases hK; exact op_addU
theorem op_eqK (hu : X.A.units + 64 < cLine) (hK : X.K = K := by rfl) : OpR X (compareOp .Eq) (rEqU K) := by cases hK; exact op_eqU hu
theorem op_neK (hu : X.A.units + 64 < cLine) (hK : X.K = K := by rfl) : OpR X (compareOp .NotEq) (rNeU K) := by cases hK; exact op_neU hu
theorem call_lenK (hK : X.K = K := by rfl) : CallR X (.builtin "len") (rLenU K) := by cases hK; exact call_lenU
theorem sl_K (hK : X.K = K := by rfl) : SlR X (rSlU K) := by cases hK; exact sl_U
theorem op_inK (hK : X.K = K := by rfl) : OpR X (compareOp .In) (rInU K) := by cases hK; exact op_inU
theorem op_notInK (hK : X.K = K := by rfl) : OpR X (compareOp .NotIn) (rNiU K) := by cases hK; exact op_notInU
theorem ix_K (hK : X.K = K := by rfl) : IxR X (rIx K) := by cases hK; exact ix_seq
theorem call_isiK' (hK : X.K = K := by rfl) : CallR X (.builtin "isinstance") (rIsi K) := by cases hK; exact call_isi
def rListOf (K : PySem.W.Frag) : List V → Hp → VK → Prop := fun xs H Q => ∃ p ys, xs = [.ref p] ∧ (SqL K H p ys ∨ SqT K H p ys) ∧ ∀ l, H l = none → Q (.ref l) (upd H l (.lst ys))
theorem call_listK (hK : X.K = K := by rfl) : CallR X (.type "list") (rListOf K) := by cases hK; exact call_list_of
def rTupleOf (K : PySem.W.Frag) : List V → Hp → VK → Prop := fun xs H Q => ∃ p ys, xs = [.ref p] ∧ ((SqL K H p ys ∧ ∀ l, H l = none → Q (.ref l) (upd H l (.tup ys))) ∨ (SqT K H p ys ∧ Q (.ref p) H))
theorem call_tupleK (hK : X.K = K := by rfl) : CallR X (.type "tuple") (rTupleOf K) := by cases hK; exact call_tuple_of
theorem cr_sumK (hc : X.calm = true) (hK : X.K = K := by rfl) : CallR X (.builtin "sum") (rSum K) := by cases hK; exact cr_sum hc
theorem cr_maxK (hc : X.calm = true) (hK : X.K = K := by rfl) : CallR X (.builtin "max") (rMax K) := by cases hK; exact cr_max hc
theorem cr_minK' (hc : X.calm = true) (hK : X.K = K := by rfl) : CallR X (.builtin "min") (rMin K) := by cases hK; exact cr_min hc
theorem cr_anyK (hc : X.calm = true) (hK : X.K = K := by rfl) : CallR X (.builtin "any") (rAny K) := by cases hK; exact cr_any hc
theorem cr_allK (hc : X.calm = true) (hK : X.K = K := by rfl) : CallR X (.builtin "all") (rAll K) := by cases hK; exact cr_all hc
theorem pi_listK {tg l : Expr} {tl : TE} (hl : PE X l tl) (hK : X.K = K := by rfl) : PI X tg l (iList K tl) := by cases hK; exact pi_list hl
theorem pi_tupK {tg l : Expr} {tl : TE} (hl : PE X l tl) (hK : X.K = K := by rfl) : PI X tg l (iTup K tl) := by cases hK; exact pi_tup hl
theorem pg_tupK {es : List Expr} {k : Nat} {pos : Pos} {t : TGs} (n : Nat) (hc : X.calm = true) (h : PGs X es t)
    (hn : (assignEach es X.env).length = n := by rfl) (hst : (assignEach es X.env).findIdx? (·.1) = none := by rfl) (hK : X.K = K := by rfl) : PG X (.Tuple es k pos) (gTup K n t) := by cases hK; exact pg_tup hc h hn hst
theorem pg_unlK {es : List Expr} {k : Nat} {pos : Pos} {t : TGs} (n : Nat) (hc : X.calm = true) (h : PGs X es t)
    (hn : (assignEach es X.env).length = n := by rfl) (hst : (assignEach es X.env).findIdx? (·.1) = none := by rfl) (hK : X.K = K := by rfl) : PG X (.Tuple es k pos) (gUnl K n t) := by cases hK; exact pg_unl hc h hn hst
end

theorem start_ {t : TS} {D : Ends} {N : List Str} {vs : List V} {σ : L2.St} {H : Hp} (e : start N vs = σ) (h : t D σ H) : t D (start N vs) H := by rw [e]; exact h
/-! ### statements -/
section
variable {σ : L2.St} {H : Hp} {nx bk ct : L2.St → Hp → Prop} {rt : VK} {t u : TS} {te : TE} {g : TG} {c : TT}
theorem seq_ (h : t ⟨u ⟨nx, rt, bk, ct⟩, rt, bk, ct⟩ σ H) : tSeq t u ⟨nx, rt, bk, ct⟩ σ H := h
theorem next_ (h : nx σ H) : tNext ⟨nx, rt, bk, ct⟩ σ H := h
theorem brk_ (h : bk σ H) : tBreak ⟨nx, rt, bk, ct⟩ σ H := h
theorem cont_ (h : ct σ H) : tCont ⟨nx, rt, bk, ct⟩ σ H := h
theorem asg_ (h : te σ H fun x H1 => g x σ H1 nx) : tAsg te g ⟨nx, rt, bk, ct⟩ σ H := h
theorem drop_ (h : te σ H fun _ H1 => nx σ H1) : tDrop te ⟨nx, rt, bk, ct⟩ σ H := h
theorem ret_ (h : te σ H rt) : tRet te ⟨nx, rt, bk, ct⟩ σ H := h
theorem retN_ (h : rt .non H) : tRetN ⟨nx, rt, bk, ct⟩ σ H := h
theorem ifS_ (h : c σ H fun b H1 => if b = true then t ⟨nx, rt, bk, ct⟩ σ H1 else u ⟨nx, rt, bk, ct⟩ σ H1) : tIfS c t u ⟨nx, rt, bk, ct⟩ σ H := h
theorem par_ {i j : Nat} {ta : TA} (h : ta σ H fun vs H1 => ∃ v w, vs = [v, w] ∧ gName i v σ H1 fun σ H => gName j w σ H nx) : tPar i j ta ⟨nx, rt, bk, ct⟩ σ H := h
theorem par3_ {i j l : Nat} {ta : TA} (h : ta σ H fun vs H1 => ∃ u v w, vs = [u, v, w] ∧ gName i u σ H1 fun σ H => gName j v σ H fun σ H => gName l w σ H nx) : tPar3 i j l ta ⟨nx, rt, bk, ct⟩ σ H := h
theorem e2_ {v w : V} {P : V → V → Prop} (h : P v w) : ∃ a b, [v, w] = [a, b] ∧ P a b := ⟨v, w, rfl, h⟩
theorem e3_ {v w z : V} {P : V → V → V → Prop} (h : P v w z) : ∃ a b c, [v, w, z] = [a, b, c] ∧ P a b c := ⟨v, w, z, rfl, h⟩
end
theorem cut_ {σ : L2.St} {H : Hp} {nx bk ct : L2.St → Hp → Prop} {rt : VK} {t u : TS} (Mid : L2.St → Hp → Prop) (h : t ⟨Mid, rt, bk, ct⟩ σ H) (h2 : ∀ σ' H', Mid σ' H' → u ⟨nx, rt, bk, ct⟩ σ' H') : Evl.tCut t u ⟨nx, rt, bk, ct⟩ σ H := ⟨Mid, h, h2⟩
/-! ### targets -/
section
variable {σ : L2.St} {H : Hp} {R : L2.St → Hp → Prop} {v : V} {i : Nat} {a : Option V} {t : TG} {ts : TGs}
theorem gn0_ (h : R (some v :: σ) H) : gName 0 v (a :: σ) H R := h
theorem gnS_ (h : gName i v σ H fun σ' H' => R (a :: σ') H') : gName (i + 1) v (a :: σ) H R := h
theorem gcons_ {vs : List V} (h : t v σ H fun σ' H' => ts vs σ' H' R) : gCons t ts (v :: vs) σ H R := ⟨v, vs, rfl, h⟩
theorem gnil_ (h : R σ H) : gNil [] σ H R := ⟨rfl, h⟩
theorem gtup_ {K : PySem.W.Frag} {n : Nat} {p : Addr} {xs : List V} (hT : SqT K H p xs) (hn : xs.length = n) (h : ts xs σ H R) : gTup K n ts (.ref p) σ H R := ⟨p, xs, rfl, hT, hn, h⟩
theorem gunl_ {K : PySem.W.Frag} {n : Nat} {p : Addr} {xs : List V} (hT : SqL K H p xs) (hn : xs.length = n) (h : ts xs σ H R) : gUnl K n ts (.ref p) σ H R := ⟨p, xs, rfl, hT, hn, h⟩
theorem gsub_ {to ti : TE} {s : TSet} (h : to σ H fun o H1 => ti σ H1 fun i H2 => s o i v H2 fun H3 => R σ H3) : gSub to ti s v σ H R := h
theorem setL_ {p : Addr} {xs : List V} {k : Int} {j : Nat} {P : Hp → Prop} (hp : H p = some (.lst xs)) (hj : ixN xs.length k = some j) (h : P (upd H p (.lst (xs.set j v)))) : rSetL (.ref p) (.int k) v H P := ⟨p, xs, k, j, rfl, rfl, hp, hj, h⟩
end
/-! ### expressions -/
section
variable {σ : L2.St} {H : Hp} {Q : VK} {QA : List V → Hp → Prop} {QB : Bool → Hp → Prop} {v x y : V} {i : Nat} {a : Option V} {ta tb te : TE} {tr : TA} {t u : TT} {r : R2} {K : PySem.W.Frag}
theorem var0_ (h : Q v H) : tVar 0 (some v :: σ) H Q := ⟨v, rfl, h⟩
theorem varS_ (h : tVar i σ H Q) : tVar (i + 1) (a :: σ) H Q := h
theorem c_ (h : Q v H) : tC v σ H Q := h
theorem op_ (h : ta σ H fun x H1 => tb σ H1 fun y H2 => r x y H2 Q) : tOp r ta tb σ H Q := h
theorem un_ {f : V → Hp → VK → Prop} (h : ta σ H fun x H1 => f x H1 Q) : tUn f ta σ H Q := h
theorem nil_ (h : QA [] H) : tNil σ H QA := h
theorem cons_ (h : ta σ H fun x H1 => tr σ H1 fun xs H2 => QA (x :: xs) H2) : tCons ta tr σ H QA := h
theorem tup_ (h : tr σ H fun xs H1 => xs.length ≤ sizeLine ∧ ∀ p, H1 p = none → Q (.ref p) (upd H1 p (.tup xs))) : tTup tr σ H Q := h
theorem lst_ (h : tr σ H fun xs H1 => xs.length ≤ sizeLine ∧ ∀ p, H1 p = none → Q (.ref p) (upd H1 p (.lst xs))) : tLst tr σ H Q := h
theorem call_ {sp : Sp} {dvs : List V} {E : XK} (h : tr σ H fun vs H1 => sp (vs ++ dvs) H1 Q E) : tCall sp dvs E tr σ H Q := h
theorem cb_ {f : List V → Hp → VK → Prop} (h : tr σ H fun vs H1 => f vs H1 Q) : tCB f tr σ H Q := h
theorem i0_ {g : Int → Int → V} {i j : Int} (h : Q (g i j) H) : rI0 g (.int i) (.int j) H Q := ⟨i, j, rfl, rfl, h⟩
theorem i_ {C : Int → Int → Prop} {g : Int → Int → V} {i j : Int} (hc : C i j) (h : Q (g i j) H) : rI C g (.int i) (.int j) H Q := ⟨i, j, rfl, rfl, hc, h⟩
theorem u_ {g : Int → V} {i : Int} (h : Q (g i) H) : rU g (.int i) H Q := ⟨i, rfl, h⟩
/-- a remainder: a letter and what is known of it -/
theorem mod_ {i j : Int} (hj : 0 < j) (h : ∀ z, i % j = z → 0 ≤ z → z < j → Q (.int z) H) : rMod (.int i) (.int j) H Q := ⟨i, j, rfl, rfl, hj, h _ rfl (Int.emod_nonneg i (by omega)) (Int.emod_lt_of_pos i hj)⟩
theorem add_int_ {i j : Int} (h : Q (.int (i + j)) H) : rAddU K (.int i) (.int j) H Q := .inl ⟨i, j, rfl, rfl, h⟩
theorem add_str_ {i j : Str} (hl : i.length + j.length ≤ sizeLine) (h : Q (.str (i ++ j)) H) : rAddU K (.str i) (.str j) H Q := .inr (.inl ⟨i, j, rfl, rfl, hl, h⟩)
theorem add_lst_ {l b : Addr} {xs zs : List V} (hl : H l = some (.lst xs)) (hb : H b = some (.lst zs)) (hz : xs.length + zs.length ≤ sizeLine) (h : ∀ p, H p = none → Q (.ref p) (upd H p (.lst (xs ++ zs)))) : rAddU K (.ref l) (.ref b) H Q := .inr (.inr (.inl ⟨l, b, xs, zs, rfl, rfl, hl, hb, hz, h⟩))
theorem eq_int_ {i j : Int} (h : Q (.bl (decide (i = j))) H) : rEqU K (.int i) (.int j) H Q := .inl ⟨rfl, by
  have e : decide (V.int i = V.int j) = decide (i = j) := decide_eq_decide.mpr ⟨V.int.inj, congrArg V.int⟩
  rw [e]; exact h⟩
theorem ne_int_ {i j : Int} (h : Q (.bl (!decide (i = j))) H) : rNeU K (.int i) (.int j) H Q := .inl ⟨rfl, by
  have e : decide (V.int i = V.int j) = decide (i = j) := decide_eq_decide.mpr ⟨V.int.inj, congrArg V.int⟩
  rw [e]; exact h⟩
theorem eq_bl_ {i j : Bool} (h : Q (.bl (decide (i = j))) H) : rEqU K (.bl i) (.bl j) H Q := .inl ⟨rfl, by
  have e : decide (V.bl i = V.bl j) = decide (i = j) := decide_eq_decide.mpr ⟨V.bl.inj, congrArg V.bl⟩
  rw [e]; exact h⟩
theorem ne_bl_ {i j : Bool} (h : Q (.bl (!decide (i = j))) H) : rNeU K (.bl i) (.bl j) H Q := .inl ⟨rfl, by
  have e : decide (V.bl i = V.bl j) = decide (i = j) := decide_eq_decide.mpr ⟨V.bl.inj, congrArg V.bl⟩
  rw [e]; exact h⟩
theorem eq_str_ {i j : Str} (h : Q (.bl (decide (i = j))) H) : rEqU K (.str i) (.str j) H Q := .inl ⟨rfl, by
  have e : decide (V.str i = V.str j) = decide (i = j) := decide_eq_decide.mpr ⟨V.str.inj, congrArg V.str⟩
  rw [e]; exact h⟩
theorem ne_str_ {i j : Str} (h : Q (.bl (!decide (i = j))) H) : rNeU K (.str i) (.str j) H Q := .inl ⟨rfl, by
  have e : decide (V.str i = V.str j) = decide (i = j) := decide_eq_decide.mpr ⟨V.str.inj, congrArg V.str⟩
  rw [e]; exact h⟩
theorem len_l_ {p : Addr} {ys : List V} (hs : SqL K H p ys) (h : Q (.int ys.length) H) : rLenU K [.ref p] H Q := .inl ⟨p, ys, rfl, .inl hs, h⟩
theorem len_t_ {p : Addr} {ys : List V} (hs : SqT K H p ys) (h : Q (.int ys.length) H) : rLenU K [.ref p] H Q := .inl ⟨p, ys, rfl, .inr hs, h⟩
theorem len_s_ {z : Str} (hz : z.length ≤ sizeLine) (h : Q (.int z.length) H) : rLenU K [.str z] H Q := .inr ⟨z, rfl, hz, h⟩
theorem ixL_ {p : Addr} {xs : List V} {i : Int} (hs : SqL K H p xs) (hv : atI xs i = some v) (h : Q v H) : rIx K (.ref p) (.int i) H Q := .inl ⟨p, xs, i, v, rfl, rfl, hs, hv, h⟩
theorem ixT_ {p : Addr} {xs : List V} {i : Int} (hs : SqT K H p xs) (hv : atI xs i = some v) (h : Q v H) : rIx K (.ref p) (.int i) H Q := .inr (.inl ⟨p, xs, i, v, rfl, rfl, hs, hv, h⟩)
theorem slL_ {p : Addr} {xs : List V} {lo hi : Option Int} (hs : SqL K H p xs) (h : ∀ q, H q = none → Q (.ref q) (upd H q (.lst (cutV xs lo hi)))) : rSlU K (.ref p) lo hi H Q := .inl ⟨p, xs, rfl, hs, h⟩
theorem sl_ {f : V → Option Int → Option Int → Hp → VK → Prop} {tl th : TO} (h : te σ H fun x H1 => tl σ H1 fun l H2 => th σ H2 fun u H3 => f x l u H3 Q) : tSl f te tl th σ H Q := h
theorem nopart_ {QO : Option Int → Hp → Prop} (h : QO none H) : tNoPart σ H QO := h
theorem part_ {QO : Option Int → Hp → Prop} (h : te σ H fun x H1 => ∃ i, x = .int i ∧ QO (some i) H1) : tPart te σ H QO := h
theorem eint_ {i : Int} {P : Int → Prop} (h : P i) : ∃ j, V.int i = .int j ∧ P j := ⟨i, rfl, h⟩
theorem eref_ {i : Addr} {P : Addr → Prop} (h : P i) : ∃ j, V.ref i = .ref j ∧ P j := ⟨i, rfl, h⟩
theorem ebl_ {i : Bool} {P : Bool → Prop} (h : P i) : ∃ j, V.bl i = .bl j ∧ P j := ⟨i, rfl, h⟩
/-! tests -/
theorem test_ (h : te σ H fun x H' => ∃ k, x = .bl k ∧ QB k H') : tTest te σ H QB := h
theorem b_ (h : te σ H fun x H' => ∃ k, x = .bl k ∧ QB k H') : tB te σ H QB := h
theorem and_ (h : t σ H fun c H1 => if c = true then u σ H1 QB else QB false H1) : tAnd t u σ H QB := h
theorem or_ (h : t σ H fun c H1 => if c = true then QB true H1 else u σ H1 QB) : tOr t u σ H QB := h
theorem not_ (h : t σ H fun c H1 => QB (!c) H1) : tNot t σ H QB := h
theorem andV_ (h : ta σ H fun x H1 => ∃ c, x = .bl c ∧ if c = true then tb σ H1 Q else Q (.bl false) H1) : tAndV ta tb σ H Q := h
theorem orV_ (h : ta σ H fun x H1 => ∃ c, x = .bl c ∧ if c = true then Q (.bl true) H1 else tb σ H1 Q) : tOrV ta tb σ H Q := h
theorem notV_ (h : ta σ H fun x H1 => ∃ c, x = .bl c ∧ Q (.bl (!c)) H1) : tNotV ta σ H Q := h
theorem if_ (h : t σ H fun c H1 => if c = true then ta σ H1 Q else tb σ H1 Q) : tIf t ta tb σ H Q := h
theorem isN_ {x : V} (h : Q (.bl (decide (x = .non))) H) : (fun (x y : V) H (Q : VK) => y = .non ∧ Q (.bl (decide (x = .non))) H) x .non H Q := ⟨rfl, h⟩
theorem enon_ {P : Prop} (h : P) : V.non = .non ∧ P := ⟨rfl, h⟩
theorem yes_ {QT : Bool → Hp → Prop} (h : QT true H) : tYes σ H QT := h
/-! iterations -/
theorem itup_ {R : It → Hp → Prop} (h : te σ H fun x H1 => ∃ a, x = .ref a ∧ (∃ xs, SqT K H1 a xs) ∧ R (Itt K a) H1) : iTup K te σ H R := h
theorem ilst_ {R : It → Hp → Prop} (h : te σ H fun x H1 => ∃ a, x = .ref a ∧ (∃ xs, SqL K H1 a xs) ∧ R (Itl K a) H1) : iList K te σ H R := h
theorem irng1_ {R : It → Hp → Prop} (h : tr σ H fun vs H1 => ∃ j : Int, vs = [.int j] ∧ -(2 ^ 62) ≤ j ∧ j < 2 ^ 62 ∧ R (Itr 0 j.toNat) H1) : iRng1 tr σ H R := h
theorem irng2_ {R : It → Hp → Prop} (h : tr σ H fun vs H1 => ∃ i j : Int, vs = [.int i, .int j] ∧ (-(2 ^ 62) ≤ i ∧ i < 2 ^ 62 ∧ -(2 ^ 62) ≤ j ∧ j < 2 ^ 62) ∧ R (Itr i (j - i).toNat) H1) : iRng2 tr σ H R := h
theorem erng1_ {R : It → Hp → Prop} {i : Int} (hi : -(2 ^ 62) ≤ i ∧ i < 2 ^ 62) (h : R (Itr 0 i.toNat) H) : ∃ j : Int, [V.int i] = [.int j] ∧ -(2 ^ 62) ≤ j ∧ j < 2 ^ 62 ∧ R (Itr 0 j.toNat) H := ⟨i, rfl, hi.1, hi.2, h⟩
theorem etup_ {R : It → Hp → Prop} {p : Addr} {xs : List V} (hT : SqT K H p xs) (h : R (Itt K p) H) : ∃ a, V.ref p = .ref a ∧ (∃ xs, SqT K H a xs) ∧ R (Itt K a) H := ⟨p, rfl, ⟨xs, hT⟩, h⟩
theorem elst_ {R : It → Hp → Prop} {p : Addr} {xs : List V} (hT : SqL K H p xs) (h : R (Itl K p) H) : ∃ a, V.ref p = .ref a ∧ (∃ xs, SqL K H a xs) ∧ R (Itl K a) H := ⟨p, rfl, ⟨xs, hT⟩, h⟩
end
theorem iteT_ {b : Bool} {A B : Prop} (e : b = true) (h : A) : if b = true then A else B := by rw [if_pos e]; exact h
theorem iteF_ {b : Bool} {A B : Prop} (e : b = false) (h : B) : if b = true then A else B := by rw [e]; exact h
theorem ited_ {c A B : Prop} [Decidable c] (h1 : c → A) (h2 : ¬ c → B) : if decide c = true then A else B := by
  by_cases h : c
  · rw [if_pos (decide_eq_true h)]; exact h1 h
  · rw [if_neg (by rw [decide_eq_false h]; exact Bool.false_ne_true)]; exact h2 h
theorem itend_ {c A B : Prop} [Decidable c] (h1 : ¬ c → A) (h2 : c → B) : if (!decide c) = true then A else B := by
  by_cases h : c
  · rw [decide_eq_true h]; exact h2 h
  · rw [decide_eq_false h]; exact h1 h
theorem joinC_ {c : Bool} {x y : V} {σ : L2.St} {H : Hp} {Q : VK} (h : ∀ v, (v = x ∨ v = y) → Q v H) : if c = true then tC x σ H Q else tC y σ H Q := by
  cases c
  · exact h y (.inr rfl)
  · exact h x (.inl rfl)
theorem iteb_ {b : Bool} {A B : Prop} (h1 : b = true → A) (h2 : b = false → B) : if b = true then A else B := by
  cases b
  · exact h2 rfl
  · exact h1 rfl
theorem sz_ {n : Nat} {P : Prop} (h : Nat.ble n 1000 = true) (p : P) : n ≤ sizeLine ∧ P := ⟨Nat.le_of_lt (small1000 (Nat.le_of_ble_eq_true h)), p⟩
theorem size_ {n : Nat} (h : n ≤ 100000) : n ≤ sizeLine := Nat.le_trans h (by decide)
theorem isi_ {K : PySem.W.Frag} {x c : V} {t u : Value} {b : Bool} {H : Hp} {Q : VK} (k : ClsV c u) (ty : TyX K H x t) (e : PySem.W.kitOne K t u = some b) (q : Q (.bl b) H) : rIsi K [x, c] H Q := ⟨x, c, t, u, b, rfl, k, ty, e, q⟩

/-! ### a loop over a written tuple, turn by turn -/
def UnrT (K : PySem.W.Frag) (a : Addr) (all : List V) (g : TG) (tb : TS) (nx : L2.St → Hp → Prop) (rt : VK) : List V → L2.St → Hp → Prop
  | [], σ, H => SqT K H a all ∧ nx σ H
  | x :: xs, σ, H => SqT K H a all ∧ g x σ H fun σ2 H2 => tb ⟨UnrT K a all g tb nx rt xs, rt, nx, UnrT K a all g tb nx rt xs⟩ σ2 H2

theorem isi_int_int {K : PySem.W.Frag} {i : Int} {H : Hp} {Q : VK} (q : Q (.bl true) H) : rIsi K [.int i, .ty "int"] H Q := isi_ (.ty _) (.base (.int _)) (kit_ty (by decide +kernel)) q
theorem isi_int_bool {K : PySem.W.Frag} {i : Int} {H : Hp} {Q : VK} (q : Q (.bl false) H) : rIsi K [.int i, .ty "bool"] H Q := isi_ (.ty _) (.base (.int _)) (kit_ty (by decide +kernel)) q
theorem isi_bl_bool {K : PySem.W.Frag} {i : Bool} {H : Hp} {Q : VK} (q : Q (.bl true) H) : rIsi K [.bl i, .ty "bool"] H Q := isi_ (.ty _) (.base (.bl _)) (kit_ty (by decide +kernel)) q
theorem isi_bl_int {K : PySem.W.Frag} {i : Bool} {H : Hp} {Q : VK} (q : Q (.bl true) H) : rIsi K [.bl i, .ty "int"] H Q := isi_ (.ty _) (.base (.bl _)) (kit_ty (by decide +kernel)) q
def rInt1 : List V → Hp → VK → Prop := fun xs H Q => (∃ i, xs = [.int i] ∧ Q (.int i) H) ∨ ∃ k, xs = [.bl k] ∧ Q (.int (if k then 1 else 0)) H
theorem call_intU {X : Cx} : CallR X (.type "int") rInt1 := call_int1
theorem int_int_ {i : Int} {H : Hp} {Q : VK} (q : Q (.int i) H) : rInt1 [.int i] H Q := .inl ⟨i, rfl, q⟩
theorem int_bl_ {b : Bool} {H : Hp} {Q : VK} (q : Q (.int (if b then 1 else 0)) H) : rInt1 [.bl b] H Q := .inr ⟨b, rfl, q⟩
def rAbs : List V → Hp → VK → Prop := fun xs H Q => ∃ i, xs = [.int i] ∧ Q (.int (if i < 0 then -i else i)) H
theorem call_absU {X : Cx} : CallR X (.builtin "abs") rAbs := call_abs
theorem abs_ {i : Int} {H : Hp} {Q : VK} (q : Q (.int (if i < 0 then -i else i)) H) : rAbs [.int i] H Q := ⟨i, rfl, q⟩
def rMax2 : List V → Hp → VK → Prop := fun xs H Q => ∃ i j, xs = [.int i, .int j] ∧ Q (.int (if j > i then j else i)) H
theorem call_maxU {X : Cx} (hc : X.calm = true) : CallR X (.builtin "max") rMax2 := call_max2 hc
theorem max2_ {i j : Int} {H : Hp} {Q : VK} (q : Q (.int (if j > i then j else i)) H) : rMax2 [.int i, .int j] H Q := ⟨i, j, rfl, q⟩
def rMin2 : List V → Hp → VK → Prop := fun xs H Q => ∃ i j, xs = [.int i, .int j] ∧ Q (.int (if j < i then j else i)) H
theorem call_minU {X : Cx} (hc : X.calm = true) : CallR X (.builtin "min") rMin2 := call_min2 hc
theorem min2_ {i j : Int} {H : Hp} {Q : VK} (q : Q (.int (if j < i then j else i)) H) : rMin2 [.int i, .int j] H Q := ⟨i, j, rfl, q⟩
def rIsN : R2 := fun x y H Q => y = .non ∧ Q (.bl (decide (x = .non))) H
def rNotN : R2 := fun x y H Q => y = .non ∧ Q (.bl (!decide (x = .non))) H
theorem op_isNU {X : Cx} : OpR X (compareOp .Is) rIsN := op_isN
theorem op_notNU {X : Cx} : OpR X (compareOp .IsNot) rNotN := op_notN
theorem isN0_ {H : Hp} {Q : VK} (q : Q (.bl true) H) : rIsN .non .non H Q := ⟨rfl, q⟩
theorem isNi_ {i : Int} {H : Hp} {Q : VK} (q : Q (.bl false) H) : rIsN (.int i) .non H Q := ⟨rfl, q⟩
theorem isNr_ {i : Addr} {H : Hp} {Q : VK} (q : Q (.bl false) H) : rIsN (.ref i) .non H Q := ⟨rfl, q⟩
theorem isNs_ {i : Str} {H : Hp} {Q : VK} (q : Q (.bl false) H) : rIsN (.str i) .non H Q := ⟨rfl, q⟩
theorem notN0_ {H : Hp} {Q : VK} (q : Q (.bl false) H) : rNotN .non .non H Q := ⟨rfl, q⟩
theorem notNi_ {i : Int} {H : Hp} {Q : VK} (q : Q (.bl true) H) : rNotN (.int i) .non H Q := ⟨rfl, q⟩
theorem notNr_ {i : Addr} {H : Hp} {Q : VK} (q : Q (.bl true) H) : rNotN (.ref i) .non H Q := ⟨rfl, q⟩
theorem notNs_ {i : Str} {H : Hp} {Q : VK} (q : Q (.bl true) H) : rNotN (.str i) .non H Q := ⟨rfl, q⟩
theorem e1int_ {i : Int} {P : Int → Prop} (h : P i) : ∃ j, [V.int i] = [.int j] ∧ P j := ⟨i, rfl, h⟩
theorem e2int_ {i j : Int} {P : Int → Int → Prop} (h : P i j) : ∃ a b, [V.int i, V.int j] = [.int a, .int b] ∧ P a b := ⟨i, j, rfl, h⟩

/-! ### comprehensions over a name: P by the turn, what is made so far, the heap -/
section
variable {σ : L2.St} {H1 : Hp} {D : Addr} {Qd : Hp → Prop} {te : TE} {vs : List Nat} {j : Nat} {K : PySem.W.Frag}
/-- what a for's walk asks -/
def ForG (J : It) (g : TG) (tb : TS) (D : Ends) (σ : L2.St) (H1 : Hp) : Prop :=
  ∃ W : Nat → Nat → L2.St → Hp → Prop, (∃ m, W 0 m σ H1) ∧
    ∀ i m σ H, W i m σ H → (J.stop i H ∧ D.nx σ H) ∨
      (J.go i H ∧ ∃ N : L2.St → Hp → Prop, (∀ σ' H', N σ' H' → ∃ m', m' < m ∧ W (i + 1) m' σ' H') ∧
        ∀ x H', J.yld i H x H' → g x σ H' fun σ2 H2 => tb ⟨N, D.rt, D.nx, N⟩ σ2 H2)
theorem for_ {wi : TI} {g : TG} {tb : TS} {D : Ends} {H : Hp} (h : wi σ H fun J H1 => ForG J g tb D σ H1) : tFor wi g tb D σ H := h
/-- what a comprehension's walk asks: W by the turn and a measure -/
def LcG (J : It) (g : TG) (tt : TT) (te : TE) (vs : List Nat) (σ : L2.St) (D : Addr) (H1 : Hp) (Qd : Hp → Prop) : Prop :=
  ∃ W : Nat → Nat → Hp → Prop, (∃ m, W 0 m (upd H1 D (.lst []))) ∧
    ∀ i m H, W i m H → (J.stop i H ∧ Qd H) ∨
      (J.go i H ∧ ∃ Nx : Hp → Prop, (∀ H', Nx H' → ∃ m', m' < m ∧ W (i + 1) m' H') ∧
        ∀ x H', J.yld i H x H' → g x (wipe σ vs) H' fun σ2 H2 =>
          wipe σ2 vs = wipe σ vs ∧ tt σ2 H2 fun b H3 => if b = true
            then te σ2 H3 fun y H4 => ∃ acc, H4 D = some (.lst acc) ∧
              acc.length < sizeLine ∧ Nx (upd H4 D (.lst (acc ++ [y])))
            else Nx H3)
theorem lc_ {wi : TI} {g : TG} {tt : TT} {Q : VK} {H : Hp} (h : wi σ H fun J H1 => ∀ D, H1 D = none → LcG J g tt te vs σ D H1 fun H2 => Q (.ref D) H2) : tLc wi g tt te vs σ H Q := h
def Lw (P : Nat → List V → Hp → Prop) (n : Nat) (D : Addr) (i : Nat) (H : Hp) : Prop := ∃ ys : List V, ys.length = i ∧ i ≤ n ∧ P i ys H ∧ H D = some (.lst ys)
def LcK (P : Nat → List V → Hp → Prop) (n : Nat) (D : Addr) (i : Nat) : VK := fun y H4 => ∃ acc, H4 D = some (.lst acc) ∧ acc.length < sizeLine ∧ Lw P n D (i + 1) (upd H4 D (.lst (acc ++ [y])))
theorem lcK_ {P : Nat → List V → Hp → Prop} {n : Nat} {D : Addr} {i : Nat} {ys : List V} {y : V} {H4 : Hp} (hD : H4 D = some (.lst ys)) (hl : ys.length = i) (hi : i < n) (hn : n ≤ 100000) (h : P (i + 1) (ys ++ [y]) (upd H4 D (.lst (ys ++ [y])))) : LcK P n D i y H4 :=
  ⟨ys, hD, Nat.lt_of_lt_of_le (show ys.length < 100000 by omega) (by decide), ys ++ [y], by rw [List.length_append, hl]; rfl, hi, h, upd_same⟩
theorem lcR {lo : Int} {n : Nat} (P : Nat → List V → Hp → Prop) (hw : ∀ x, wipe ((wipe σ vs).set j (some x)) vs = wipe σ vs) (h0 : P 0 [] (upd H1 D (.lst [])))
    (hs : ∀ i ys H, i < n → ys.length = i → P i ys H → H D = some (.lst ys) → te ((wipe σ vs).set j (some (.int (lo + (i : Int))))) H (LcK P n D i))
    (hd : ∀ ys H, ys.length = n → P n ys H → H D = some (.lst ys) → Qd H) :
    LcG (Itr lo n) (gName j) tYes te vs σ D H1 Qd := by
  refine lc_range (Lw P n D) ⟨[], rfl, Nat.zero_le _, h0, upd_same⟩ (fun i H hi p => ?_) fun H p => ?_
  · obtain ⟨ys, hl, _, hp, hD⟩ := p
    refine ⟨hw _, ?_⟩
    unfold tYes
    dsimp only
    rw [if_pos rfl]
    exact hs i ys H hi hl hp hD
  · obtain ⟨ys, hl, _, hp, hD⟩ := p
    exact hd ys H hl hp hD
theorem lcT {a : Addr} {xs : List V} (P : Nat → List V → Hp → Prop) (hw : ∀ x, wipe ((wipe σ vs).set j (some x)) vs = wipe σ vs) (h0 : P 0 [] (upd H1 D (.lst [])))
    (ht : ∀ i ys H, P i ys H → SqT K H a xs)
    (hs : ∀ i x ys H, xs[i]? = some x → i < xs.length → ys.length = i → P i ys H → H D = some (.lst ys) → te ((wipe σ vs).set j (some x)) H (LcK P xs.length D i))
    (hd : ∀ ys H, ys.length = xs.length → P xs.length ys H → H D = some (.lst ys) → Qd H) :
    LcG (Itt K a) (gName j) tYes te vs σ D H1 Qd := by
  refine lc_tup (xs := xs) (Lw P xs.length D) ⟨[], rfl, Nat.zero_le _, h0, upd_same⟩ (fun i H _ p => ?_) (fun i x H hx p => ?_) fun H p => ?_
  · obtain ⟨ys, _, _, hp, _⟩ := p
    exact ht i ys H hp
  · obtain ⟨ys, hl, _, hp, hD⟩ := p
    refine ⟨hw _, ?_⟩
    unfold tYes
    dsimp only
    rw [if_pos rfl]
    exact hs i x ys H hx (List.getElem?_eq_some_iff.mp hx).1 hl hp hD
  · obtain ⟨ys, hl, _, hp, hD⟩ := p
    exact hd ys H hl hp hD
theorem lcL {a : Addr} {xs : List V} (P : Nat → List V → Hp → Prop) (hw : ∀ x, wipe ((wipe σ vs).set j (some x)) vs = wipe σ vs) (h0 : P 0 [] (upd H1 D (.lst [])))
    (ht : ∀ i ys H, P i ys H → SqL K H a xs)
    (hs : ∀ i x ys H, xs[i]? = some x → i < xs.length → ys.length = i → P i ys H → H D = some (.lst ys) → te ((wipe σ vs).set j (some x)) H (LcK P xs.length D i))
    (hd : ∀ ys H, ys.length = xs.length → P xs.length ys H → H D = some (.lst ys) → Qd H) :
    LcG (Itl K a) (gName j) tYes te vs σ D H1 Qd := by
  refine lc_list (xs := xs) (Lw P xs.length D) ⟨[], rfl, Nat.zero_le _, h0, upd_same⟩ (fun i H _ p => ?_) (fun i x H hx p => ?_) fun H p => ?_
  · obtain ⟨ys, _, _, hp, _⟩ := p
    exact ht i ys H hp
  · obtain ⟨ys, hl, _, hp, hD⟩ := p
    refine ⟨hw _, ?_⟩
    unfold tYes
    dsimp only
    rw [if_pos rfl]
    exact hs i x ys H hx (List.getElem?_eq_some_iff.mp hx).1 hl hp hD
  · obtain ⟨ys, hl, _, hp, hD⟩ := p
    exact hd ys H hl hp hD
/-- a loop over a tuple that stands still, turn by turn -/
theorem unrT {a : Addr} {xs : List V} {g : TG} {tb : TS} {nx bk ct : L2.St → Hp → Prop} {rt : VK} {H : Hp} (h : UnrT K a xs g tb nx rt xs σ H) :
    ForG (Itt K a) g tb ⟨nx, rt, bk, ct⟩ σ H := by
  refine for_tup (D := ⟨nx, rt, bk, ct⟩) (xs := xs) (fun i σ H => UnrT K a xs g tb nx rt (xs.drop i) σ H) h (fun i σ H hi p => ?_) (fun i x σ H hx p => ?_) fun σ H p => ?_
  · cases e : xs.drop i with
    | nil => rw [e] at p; exact p.1
    | cons y ys => rw [e] at p; exact p.1
  · have hi : i < xs.length := (List.getElem?_eq_some_iff.mp hx).1
    have e : xs.drop i = x :: xs.drop (i + 1) := by
      rw [List.drop_eq_getElem_cons hi]
      have := (List.getElem?_eq_some_iff.mp hx).2
      rw [this]
    rw [e] at p
    exact p.2
  · rw [List.drop_length] at p
    exact p.2
end
/-! ### comprehensions whose elements change nothing: f of each item -/
theorem same_upd {H H' : Hp} {D : Addr} {o : HO} (e : Same H H') (h : H D = none) : Same H (upd H' D o) := fun b x hb => by
  rw [upd_ne (ne_of_none hb h)]; exact e b x hb
theorem same_new {H : Hp} {p : Addr} {o : HO} (h : H p = none) : Same H (upd H p o) := same_upd (Same.refl H) h
theorem same_sqt {K : PySem.W.Frag} {H H' : Hp} {a : Addr} {xs : List V} (e : Same H H') (h : SqT K H a xs) : SqT K H' a xs := by
  rcases h with (h | ⟨o, h⟩) | h
  · exact .inl (.inl (e _ _ h))
  · exact .inl (.inr ⟨o, e _ _ h⟩)
  · exact .inr h
section
variable {σ : L2.St} {H1 : Hp} {D : Addr} {Qd : Hp → Prop} {te : TE} {vs : List Nat} {j : Nat} {K : PySem.W.Frag}
theorem lcTp {a : Addr} {xs : List V} (f : V → V) (hT : SqT K H1 a xs) (hn : H1 D = none) (hl : Nat.ble xs.length 100000 = true) (hw : ∀ x, wipe ((wipe σ vs).set j (some x)) vs = wipe σ vs)
    (hs : ∀ (i : Nat) (x : V) (H' : Hp) (R : VK), xs[i]? = some x → Same H1 H' → (∀ H4, Same H' H4 → R (f x) H4) → te ((wipe σ vs).set j (some x)) H' R)
    (hd : ∀ H', Same H1 H' → H' D = some (.lst (xs.map f)) → Qd H') :
    LcG (Itt K a) (gName j) tYes te vs σ D H1 Qd := by
  refine lcT (xs := xs) (fun i ys H' => ys = (xs.take i).map f ∧ Same H1 H') hw ⟨rfl, same_new hn⟩ (fun i ys H' p => same_sqt p.2 hT) (fun i x ys H' hx hi hy p hD => ?_) fun ys H' hy p hD => ?_
  · refine hs i x H' _ hx p.2 fun H4 e4 => lcK_ (e4 _ _ hD) hy hi (Nat.le_of_ble_eq_true hl) ⟨?_, same_upd (p.2.trans e4) hn⟩
    rw [p.1, List.take_add_one, hx, List.map_append]; rfl
  · refine hd H' p.2 ?_
    rw [hD, p.1, List.take_length]
theorem lcLp {a : Addr} {xs : List V} (f : V → V) (hT : SqL K H1 a xs) (hn : H1 D = none) (hl : Nat.ble xs.length 100000 = true) (hw : ∀ x, wipe ((wipe σ vs).set j (some x)) vs = wipe σ vs)
    (hs : ∀ (i : Nat) (x : V) (H' : Hp) (R : VK), xs[i]? = some x → Same H1 H' → (∀ H4, Same H' H4 → R (f x) H4) → te ((wipe σ vs).set j (some x)) H' R)
    (hd : ∀ H', Same H1 H' → H' D = some (.lst (xs.map f)) → Qd H') :
    LcG (Itl K a) (gName j) tYes te vs σ D H1 Qd := by
  refine lcL (xs := xs) (fun i ys H' => ys = (xs.take i).map f ∧ Same H1 H') hw ⟨rfl, same_new hn⟩ (fun i ys H' p => p.2.seq hT) (fun i x ys H' hx hi hy p hD => ?_) fun ys H' hy p hD => ?_
  · refine hs i x H' _ hx p.2 fun H4 e4 => lcK_ (e4 _ _ hD) hy hi (Nat.le_of_ble_eq_true hl) ⟨?_, same_upd (p.2.trans e4) hn⟩
    rw [p.1, List.take_add_one, hx, List.map_append]; rfl
  · refine hd H' p.2 ?_
    rw [hD, p.1, List.take_length]
end
/-! ### one object may change -/
def Kept (a : Addr) (H H' : Hp) : Prop := ∀ b o, b ≠ a → H b = some o → H' b = some o
theorem Kept.refl (a : Addr) (H : Hp) : Kept a H H := fun _ _ _ h => h
theorem Kept.trans {a : Addr} {H H1 H2 : Hp} (x : Kept a H H1) (y : Kept a H1 H2) : Kept a H H2 := fun b o n h => y b o n (x b o n h)
theorem kept_same {a : Addr} {H H' : Hp} (e : Same H H') : Kept a H H' := fun b o _ h => e b o h
theorem kept_upd {a : Addr} {H H' : Hp} {o : HO} (x : Kept a H H') : Kept a H (upd H' a o) := fun b u n h => by rw [upd_ne n]; exact x b u n h
theorem kept_new {a D : Addr} {H H' : Hp} {o : HO} (x : Kept a H H') (h : H' D = none) : Kept a H (upd H' D o) := fun b u n hb => by rw [upd_ne (ne_of_none (x b u n hb) h)]; exact x b u n hb
theorem kept_sql {a : Addr} {K : PySem.W.Frag} {H H' : Hp} {c : Addr} {xs : List V} (x : Kept a H H') (n : c ≠ a) (h : SqL K H c xs) : SqL K H' c xs := by
  rcases h with (h | ⟨o, h⟩) | h
  · exact .inl (.inl (x _ _ n h))
  · exact .inl (.inr ⟨o, x _ _ n h⟩)
  · exact .inr h
theorem kept_sqt {a : Addr} {K : PySem.W.Frag} {H H' : Hp} {c : Addr} {xs : List V} (x : Kept a H H') (n : c ≠ a) (h : SqT K H c xs) : SqT K H' c xs := by
  rcases h with (h | ⟨o, h⟩) | h
  · exact .inl (.inl (x _ _ n h))
  · exact .inl (.inr ⟨o, x _ _ n h⟩)
  · exact .inr h

/-! ### the reel of a law: cells, how many were begun, what is left of a great one -/
structure Hat (H : Hp) (a c : Addr) (ns : List Int) (n : Nat) : Prop where
  ex : ∃ t r : Int, H a = some (.lst [.ref c, .int t, .int r]) ∧ 0 ≤ t ∧ t ≤ n
  ne : c ≠ a
  cs : H c = some (.lst (ns.map V.int))
  le : ns.length ≤ 63
theorem Hat.at {H : Hp} {a c : Addr} {ns : List Int} {n : Nat} (h : Hat H a c ns n) : ∃ o, H a = Option.some o := by
  obtain ⟨t, r, e, _⟩ := h.ex
  exact ⟨_, e⟩
theorem Hat.na {H : Hp} {a c p : Addr} {ns : List Int} {n : Nat} (h : Hat H a c ns n) (hp : H p = none) : p ≠ a := by
  obtain ⟨o, e⟩ := h.at
  exact (ne_of_none e hp).symm
theorem Hat.nc {H : Hp} {a c p : Addr} {ns : List Int} {n : Nat} (h : Hat H a c ns n) (hp : H p = none) : p ≠ c := (ne_of_none h.cs hp).symm
theorem Hat.same {H H' : Hp} {a c : Addr} {ns : List Int} {n : Nat} (h : Hat H a c ns n) (e : Same H H') : Hat H' a c ns n := by
  obtain ⟨⟨t, r, h, h0⟩, h1, h2, h3⟩ := h
  exact ⟨⟨t, r, e _ _ h, h0⟩, h1, e _ _ h2, h3⟩
theorem Hat.mono {H : Hp} {a c : Addr} {ns : List Int} {n m : Nat} (h : Hat H a c ns n) (e : n ≤ m) : Hat H a c ns m := by
  obtain ⟨⟨t, r, h, h0, h4⟩, h1, h2, h3⟩ := h
  exact ⟨⟨t, r, h, h0, by omega⟩, h1, h2, h3⟩
theorem Hat.upd {H : Hp} {a c D : Addr} {ns : List Int} {n : Nat} {o : HO} (h : Hat H a c ns n) (hD : D ≠ a) (hc : D ≠ c) : Hat (L2.upd H D o) a c ns n := by
  obtain ⟨⟨t, r, h, h0⟩, h1, h2, h3⟩ := h
  exact ⟨⟨t, r, by rw [upd_ne hD.symm]; exact h, h0⟩, h1, by rw [upd_ne hc.symm]; exact h2, h3⟩
theorem Hat.new {H : Hp} {a c D : Addr} {ns : List Int} {n : Nat} {o : HO} (h : Hat H a c ns n) (hD : H D = none) : Hat (L2.upd H D o) a c ns n := h.upd (h.na hD) (h.nc hD)
theorem kept_at {a D : Addr} {H H' : Hp} {o : HO} (x : Kept a H H') (h : H D = none) : Kept a H (L2.upd H' D o) := fun b u n hb => by rw [upd_ne (ne_of_none hb h)]; exact x b u n hb
/-- a comprehension over a range whose elements draw: dn draws a turn at most, R of what is made so far -/
theorem lcRd {σ : L2.St} {H1 : Hp} {D : Addr} {Qd : Hp → Prop} {te : TE} {vs : List Nat} {j : Nat} {a c : Addr} {ns : List Int} {n dn k : Nat} {lo : Int} (R : Nat → List V → Prop)
    (hh : Hat H1 a c ns n) (hD : H1 D = none) (hk : k ≤ 100000) (hw : ∀ x, wipe ((wipe σ vs).set j (some x)) vs = wipe σ vs) (h0 : R 0 [])
    (hs : ∀ (i : Nat) (ys : List V) (H' : Hp) (Q : VK), i < k → ys.length = i → R i ys → Kept a H1 H' → Hat H' a c ns (n + dn * i) → (∀ y H4, Kept a H' H4 → Hat H4 a c ns (n + dn * (i + 1)) → R (i + 1) (ys ++ [y]) → Q y H4) → te ((wipe σ vs).set j (some (.int (lo + (i : Int))))) H' Q)
    (hd : ∀ (ys : List V) (H' : Hp), ys.length = k → R k ys → Kept a H1 H' → Hat H' a c ns (n + dn * k) → H' D = some (.lst ys) → Qd H') :
    LcG (Itr lo k) (gName j) tYes te vs σ D H1 Qd := by
  have da := hh.na hD
  have dc := hh.nc hD
  refine lcR (fun i ys H' => R i ys ∧ Kept a H1 H' ∧ Hat H' a c ns (n + dn * i)) hw ⟨h0, kept_at (Kept.refl _ _) hD, hh.new hD⟩ (fun i ys H' hi hy p hDy => ?_) fun ys H' hy p hDy => ?_
  · exact hs i ys H' _ hi hy p.1 p.2.1 p.2.2 fun y H4 k4 h4 r4 => lcK_ (k4 _ _ da hDy) hy hi hk ⟨r4, kept_at (p.2.1.trans k4) hD, h4.upd da dc⟩
  · exact hd ys H' hy p.1 p.2.1 p.2.2 hDy
theorem lcTd {K : PySem.W.Frag} {σ : L2.St} {H1 : Hp} {D : Addr} {Qd : Hp → Prop} {te : TE} {vs : List Nat} {j : Nat} {a c b : Addr} {ns : List Int} {n dn : Nat} {xs : List V} (R : Nat → List V → Prop) (hT : SqT K H1 b xs) (hb : b ≠ a)
    (hh : Hat H1 a c ns n) (hD : H1 D = none) (hk : xs.length ≤ 100000) (hw : ∀ x, wipe ((wipe σ vs).set j (some x)) vs = wipe σ vs) (h0 : R 0 [])
    (hs : ∀ (i : Nat) (x : V) (ys : List V) (H' : Hp) (Q : VK), xs[i]? = some x → ys.length = i → R i ys → Kept a H1 H' → Hat H' a c ns (n + dn * i) → (∀ y H4, Kept a H' H4 → Hat H4 a c ns (n + dn * (i + 1)) → R (i + 1) (ys ++ [y]) → Q y H4) → te ((wipe σ vs).set j (some x)) H' Q)
    (hd : ∀ (ys : List V) (H' : Hp), ys.length = xs.length → R xs.length ys → Kept a H1 H' → Hat H' a c ns (n + dn * xs.length) → H' D = some (.lst ys) → Qd H') :
    LcG (Itt K b) (gName j) tYes te vs σ D H1 Qd := by
  have da := hh.na hD
  have dc := hh.nc hD
  refine lcT (xs := xs) (fun i ys H' => R i ys ∧ Kept a H1 H' ∧ Hat H' a c ns (n + dn * i)) hw ⟨h0, kept_at (Kept.refl _ _) hD, hh.new hD⟩ (fun i ys H' p => kept_sqt p.2.1 hb hT) (fun i x ys H' hx hi hy p hDy => ?_) fun ys H' hy p hDy => ?_
  · exact hs i x ys H' _ hx hy p.1 p.2.1 p.2.2 fun y H4 k4 h4 r4 => lcK_ (k4 _ _ da hDy) hy hi hk ⟨r4, kept_at (p.2.1.trans k4) hD, h4.upd da dc⟩
  · exact hd ys H' hy p.1 p.2.1 p.2.2 hDy
theorem at_int {ns : List Int} {z : Int} (h0 : 0 ≤ z) (h1 : z < ns.length) : ∃ v, atI (ns.map V.int) z = some (.int v) := by
  obtain ⟨k, rfl⟩ := Int.eq_ofNat_of_zero_le h0
  have hk : k < ns.length := by omega
  exact ⟨ns[k], atI_nat (by rw [List.getElem?_map, List.getElem?_eq_getElem hk]; rfl)⟩
theorem at_some {xs : List V} {z : Int} (h0 : 0 ≤ z) (h1 : z < xs.length) : ∃ v, atI xs z = some v ∧ v ∈ xs := by
  obtain ⟨k, rfl⟩ := Int.eq_ofNat_of_zero_le h0
  have hk : k < xs.length := by omega
  exact ⟨xs[k], atI_nat (List.getElem?_eq_getElem hk), List.getElem_mem hk⟩
theorem cut_to (xs : List V) (k : Nat) : cutV xs none (some (k : Int)) = xs.take k := by
  unfold cutV
  rw [HT.sIx_none, HT.sIx_nat, List.drop_zero, Nat.sub_zero]
  by_cases h : k ≤ xs.length
  · rw [Nat.min_eq_left h]
  · rw [Nat.min_eq_right (by omega), List.take_of_length_le (Nat.le_refl _), List.take_of_length_le (by omega)]
/-- xs != [] of ints -/
theorem ne_nil_ {K : PySem.W.Frag} {H : Hp} {Q : VK} {c e : Addr} {ns : List Int} (hc : SqL K H c (ns.map V.int)) (he : SqL K H e []) (h : Q (.bl (!ns.isEmpty)) H) : rNeU K (.ref c) (.ref e) H Q := by
  have dp : ∀ ns : List Int, DpAll K H (ns.map V.int) (ns.map PyData.int) := fun ns => by
    induction ns with
    | nil => exact .nil
    | cons n r ih => exact .cons (.int n) ih
  refine .inr ⟨.list (ns.map PyData.int), .list [], .lst hc (dp ns), .lst he .nil, PySem.W.shaped_ints ns, PySem.W.shaped_ints [], ?_⟩
  have e2 : PyData.eqv (.list (ns.map PyData.int)) (.list []) = ns.isEmpty := by
    cases ns with
    | nil => simp [PyData.eqv, PyData.eqvAll]
    | cons n r => simp [PyData.eqv, PyData.eqvAll]
  rw [e2]; exact h
end HX
/-! super().__init__(..) as the first statement of an own class's __init__ -/
namespace HS
open PySem PySem.Spec PyProof.Rows L2 NdefX StX ClX
/-- what stands of a def that closes over __class__, cell cc, class D; its code object at cda -/
structure SupDef (P : Program) (K : PySem.W.Frag) (mg : Str → Option Value) (F : NF) (f D cc : Addr) : Prop where
  lk : ∃ (oc : Value) (od : Option Addr) (dV kV doc pm ct : Value) (an : Option Addr) (osl : Array (Option Value)), K.lookup f = some ⟨oc, od, .func (PySem.W.fnX F.name F.qual F.params F.body F.scope F.cl dV kV doc pm an (.ref F.c) ct), osl⟩ ∧
    ∀ us : List Value, us.length = (F.params.args.map (·.arg)).length → bindArgs (PySem.W.fnX F.name F.qual F.params F.body F.scope F.cl dV kV doc pm an (.ref F.c) ct) ⟨us, []⟩ = pure ((F.params.args.map (·.arg)).zip us)
  cd : PySem.W.codeIn K (.ref F.c) F.qual = true
  cl : F.cl = [(("__class__" : Str), cc)]
  code : ∃ (ccl : Value) (cdd : Option Addr) (vs : Array Value) (ccs : Array (Option Value)) (file : Str) (tf : Tok), K.lookup F.c = some ⟨ccl, cdd, .fields vs, ccs⟩ ∧ vs[2]? = some (.str file tf) ∧ ((P.main.file : Str) == file) = true
  cell : ∃ (ccl : Value) (cdd : Option Addr) (ccs : Array (Option Value)), K.lookup cc = some ⟨ccl, cdd, .cell (some (.ref D)), ccs⟩
  isD : ∃ cdD, PySem.W.clsIn K D = some cdD
  sup : mg "super" = none
  top : (P.main.scope.names.lookup ("super" : Str)).isSome = false
/-- what a class C must have that super() of D finds the def at g -/
structure SupCls (K : PySem.W.Frag) (C D : Addr) (m : Str) (g : Addr) : Prop where
  hm : PySem.W.ks_superIn K C D m = some (some (.ref g))
  ty : PySem.W.typeIn K (.ref g) = some (.type "function")
  fi : PySem.W.fnIn K g = true
  sub : PySem.W.mroIn K C (.ref D) = some true
  op : PySem.W.nsIn K cStatics "thirdparty.any" = some none

section
variable {P : Program} {w : World} {K : PySem.W.Frag} {mg : Str → Option Value} {base : Heap} {k : Nat} {F : NF} {f D cc : Addr} {ps N : List Str} {sp : Sp}
theorem fn_super {e : Expr} {es : List Expr} {rest : List Stmt} {p0 p1 apos cpos spos : Pos} {pl : Sem Bool} (SD : SupDef P K mg F f D cc)
    (hbody : F.body = .Expr (.Call (.Attribute (.Call (.Name "super" p0) [] [] p1) "__init__" apos) (e :: es) [] cpos) spos :: rest)
    (S : NScope N ps [("__class__" : Str)] F.scope) (hps : F.params.args.map (·.arg) = ps) (hpo : F.params.posonlyargs = []) (hself : ps.head? = some ("self" : Str)) (hN0 : N[0]? = some ("self" : Str)) (hks : F.scope.names.lookup ("super" : Str) = some .globalImplicit)
    (hst : ∀ env, starEach (e :: es) env = (false, eval e env) :: starEach es env) (hpl : ∀ env, (backTo cpos (starEach es env)).any (·.1) = false)
    (hi : ∀ L, interactive (envF F f L) = false) (hsw : ∀ L, swapsWith (.Call (.Attribute (.Call (.Name "super" p0) [] [] p1) "__init__" apos) (e :: es) [] cpos) none spos.line (envF F f L) = pure false)
    (he : ∀ L, eval (.Call (.Attribute (.Call (.Name "super" p0) [] [] p1) "__init__" apos) (e :: es) [] cpos) (envF F f L) = (do
      let ov ← attributeBase (.Call (.Name "super" p0) [] [] p1) "__init__" (envF F f L) (eval (.Call (.Name "super" p0) [] [] p1) (envF F f L))
      standAt apos.atName
      let (f', first) ← holding [ov] (getMethod ov "__init__" pl)
      callWith cpos f' first (backTo cpos (starEach (e :: es) (envF F f L))) []))
    (len : ∀ vs H Q E, sp vs H Q E → vs.length = ps.length)
    (h : ∀ (A : Around) (outer : List Env) (s : Shared) (H : Hp) (vs : List V) (Q : VK) (E : XK), Room k (A.deeper (envF F f s.heap.objs.size)) → sp vs H Q E →
      ∃ (x C dx g : Addr) (fs : List (Str × V)) (vr : List V) (ta : TA) (tr : TS) (spB : Sp), vs = .ref x :: vr ∧ H x = some (.ins C dx fs) ∧ SupCls K C D "__init__" g ∧ FnR P w K mg base CX0 k g spB ∧
        PA (ncx CX0 P w K mg base N F f A outer s H E)  (e :: es) ta ∧ PSs (ncx CX0 P w K mg base N F f A outer s H E)  rest tr ∧
        ta (startF N vs [none]) H fun ws H1 => spB (.ref x :: ws) H1 (fun _ H2 => tr { nx := fun _ H' => Q .non H', rt := Q } (startF N vs [none]) H2) E0) :
    FnR P w K mg base CX0 (k + 1) f sp := by
  intro A outer s H us vs Q E hr e0 r hsp
  have hl := len _ _ _ _ hsp
  obtain ⟨oc, od, dV, kV, doc, pm, ct, an, osl, lk, hb⟩ := SD.lk
  have KX : K.In s.heap := e0.mod.kin.keeps fun b o e => (e0.bs b o e).1
  have lim : s.heap.NoLimit := e0.mod.nolimit.keeps fun b o e => (e0.bs b o e).1
  have hul : us.length = ps.length := by rw [← r.length]; exact hl
  have hbind : BindsTo s (PySem.W.fnX F.name F.qual F.params F.body F.scope F.cl dV kV doc pm an (.ref F.c) ct) ⟨us, []⟩ (ps.zip us) := by
    have z := hb us (by rw [hps]; exact hul)
    rw [hps] at z
    exact .of_eq z
  obtain ⟨x, C, dx, g, fs, vr, ta, tr, spB, rfl, hx, SC, G, hta, htr, hgo⟩ := h A outer s H vs Q E (hr.deeper _) hsp
  obtain ⟨ccl, cdd, cvs, ccs, file, tf, hcode, hvs, hfile⟩ := SD.code
  obtain ⟨cl1, cl2, cl3, hcell⟩ := SD.cell
  obtain ⟨cdD, hD⟩ := SD.isD
  have hcl := SD.cl
  have hccH : H cc = none := (e0.bs cc _ (e0.mod.kin _ _ hcell)).2
  have CA : CellsAt F.cl [("__class__" : Str)] [none] s.heap H := by
    rw [hcl]
    refine ⟨rfl, fun y c e => ?_, fun y z c e1 e2 => ?_, fun i y e => ?_⟩
    · have e' := PySem.mem_of_lookup e
      rw [List.mem_singleton] at e'
      cases e'
      exact ⟨hccH, _, _, KX _ _ hcell, rfl⟩
    · have a1 := PySem.mem_of_lookup e1
      have a2 := PySem.mem_of_lookup e2
      rw [List.mem_singleton] at a1 a2
      cases a1
      cases a2
      rfl
    · match i, e with
      | 0, e =>
        cases e
        exact ⟨cc, rfl, fun v z => by cases z⟩
  refine PySem.ks_codeAny_call_defAt (fd := PySem.W.fnX F.name F.qual F.params F.body F.scope F.cl dV kV doc pm an (.ref F.c) ct) (body := F.body) (binds := ps.zip us) hr.depth (KX _ _ lk) rfl lim (PySem.W.codeRec_of KX SD.cd) rfl hbind S.nocell (fun y hy => S.par y.1 (List.of_mem_zip (a := y.1) (b := y.2) hy).1) (fun h₁ hns hk₁ => ?_) S.co S.gen S.kind
  have I : Inv (ncx CX0 P w K mg base N F f A outer s H E) [] (startF N (.ref x :: vr) [none]) H { s with heap := h₁, toks := s.toks + (ps.zip us).length } := inv_startN S hr.hd e0 hl r CA hns hk₁
  have KX1 := I.kIn
  show _root_.PySem.wpAt (model P w) (A.deeper (envF F f s.heap.objs.size)) (.func F.body (envF F f s.heap.objs.size)) (execs F.body (envF F f s.heap.objs.size)) _ _ _
  rw [hbody]
  refine PySem.ks_wpAt_execs_cons (PySem.ks_wpAt_Expr_any (PySem.ks_wpAt_MethodCall (pl := pl) ?_ (he _)) (hi _) (hsw _))
  have hxI : ∃ ox, h₁.get? x = some ox ∧ ox.cls = .ref C ∧ ∀ c, ox.data ≠ .cls c := by
    obtain ⟨_, _, _, e1, _⟩ := (show ObjOk P w H h₁ x (.ins C dx fs) from I.hok x _ hx)
    exact ⟨_, e1, rfl, fun c z => nomatch z⟩
  obtain ⟨ox, hx1, hx2, hx3⟩ := hxI
  obtain ⟨oD, hD1, hD2⟩ : ∃ oD, h₁.get? D = some oD ∧ oD.data = .cls cdD := by
    unfold PySem.W.clsIn at hD
    split at hD
    · rename_i c d cd' sl ho
      cases hD
      exact ⟨_, KX1 _ _ ho, rfl⟩
    · cases hD
  obtain ⟨m, hnm, hlk⟩ := I.loc
  obtain ⟨mb, hb1, hb2⟩ := I.mod.blt
  cases hps0 : F.params.args with
  | nil => rw [hps0] at hps; rw [← hps] at hself; cases hself
  | cons ar ars =>
  have har : ar.arg = ("self" : Str) := by
    rw [← hps, hps0] at hself
    exact Option.some.inj hself
  have hselfM : m "self" = some (.ref x) := by
    obtain ⟨u, ru, lo⟩ := hlk 0 "self" (.ref x) hN0 rfl (.inl (S.par _ (by rw [← hps, hps0, List.map_cons, har]; exact List.mem_cons_self)))
    have ru' : u = Value.ref x := ru
    subst ru'
    rcases lo with ⟨_, z⟩ | ⟨z, _⟩
    · exact z
    · have z' := S.par ("self" : Str) (by rw [← hps, hps0, List.map_cons, har]; exact List.mem_cons_self)
      have z2 : F.scope.names.lookup ("self" : Str) = some .cell ∨ F.scope.names.lookup ("self" : Str) = some .free := z
      rw [z'] at z2
      rcases z2 with z2 | z2 <;> cases z2
  refine PySem.ks_wpAt_super_base (env := envF F f s.heap.objs.size) (ar := ar) hks (S.frk _ (List.mem_singleton.mpr rfl)) (by decide) rfl (KX1 _ _ lk) rfl (by show (F.params.posonlyargs ++ F.params.args).head? = some ar; rw [hpo, hps0]; rfl) rfl (KX1 _ _ hcode) rfl hvs hfile SD.top ?_
  refine PySem.W.ks_loadName_global S.kind hks (PySem.Calls.loadGlobal_builtin (I.mod.glob.keeps I.bk) SD.sup (hb1.keeps I.bk) ((hb2 "super" (by decide)).trans (by decide +kernel : bootBuiltins "super" = some (.type "super"))) ⟨rfl, ?_⟩)
  refine wpAny_loadName_free S.kind (S.frk _ (List.mem_singleton.mpr rfl)) (by show List.lookup ("__class__" : Str) F.cl = some cc; rw [hcl]; rfl) ⟨_, KX1 _ _ hcell, rfl⟩ ?_
  refine wpAny_loadName_local S.kind (S.par _ (by rw [← hps, hps0]; exact List.mem_cons_self)) hnm (by rw [har]; exact hselfM) ?_
  refine PySem.ks_wpAny_isType_cls hD1 hD2 ⟨rfl, ?_⟩
  refine PySem.ks_wpAny_call_super hD1 hD2 hx1 hx2 hx3 (PySem.W.looks_mroIn KX1 SC.sub) (fun h2 e2 k2 => ?_)
  have I2 : Inv (ncx CX0 P w K mg base N F f A outer s H E) [(h₁.objs.size, PySem.W.ks_superObj D x C)] (startF N (.ref x :: vr) [none]) H { s with heap := h2, toks := s.toks + (ps.zip us).length } := pin_new (s := { s with heap := h₁, toks := s.toks + (ps.zip us).length }) I k2 (Nat.le_refl _) e2 (fun v z => nomatch z)
  have hm := SC.hm
  cases hc : PySem.W.clsIn K C with
  | none => unfold PySem.W.ks_superIn at hm; rw [hc] at hm; cases hm
  | some cd =>
  unfold PySem.W.ks_superIn at hm
  rw [hc] at hm
  obtain ⟨of, hof, hofc⟩ : ∃ of, h2.get? g = some of ∧ of.cls = .type "function" := by
    have ht' : (K.lookup g).map (·.cls) = some (.type "function") := SC.ty
    cases z : K.lookup g with
    | none => rw [z] at ht'; cases ht'
    | some of => rw [z] at ht'; exact ⟨of, I2.kIn _ _ z, Option.some.inj ht'⟩
  have hxC : x ≠ C := by
    rintro rfl
    unfold PySem.W.clsIn at hc
    split at hc
    · rename_i c d cd' sl ho
      have z := (I.bs _ _ (I.mod.kin _ _ ho)).2
      rw [hx] at z
      cases z
    · cases hc
  refine PySem.ks_wpAny_getMethod_super (pin_at I2) (PySem.W.looks_opaque I2.kIn SC.op) (l₀ := cd.mro) (fun A Q E s k q => wpAny_bind ((PySem.W.looks_clsIn I2.kIn hc) A _ E s k (wpAny_pure q))) rfl I2.kIn hm hof hofc hxC (by decide) ?_
  have I3 : Inv (ncx CX0 P w K mg base N F f A outer s H E) [(h2.objs.size, PySem.W.methodObj (.ref g) (.ref x)), (h₁.objs.size, PySem.W.ks_superObj D x C)] (startF N (.ref x :: vr) [none]) H { s with heap := h2.push (PySem.W.methodObj (.ref g) (.ref x)), toks := s.toks + (ps.zip us).length + 1 } :=
    pin_new (s := { s with heap := h2, toks := s.toks + (ps.zip us).length }) I2 (fun _ _ z => Heap.get?_push_of_some _ z) (Nat.le_refl _) (Heap.get?_push_size h2 rfl) (fun v z => nomatch z)
  have hq := pin_at I3
  have hL : h2.objs.size ≠ (ncx CX0 P w K mg base N F f A outer s H E).env.locals := (I3.pin (h2.objs.size, PySem.W.methodObj (.ref g) (.ref x)) (List.mem_append_right _ List.mem_cons_self)).2.2.1
  have hbn : base.get? h2.objs.size = none := base_none I2 (Nat.le_refl _)
  refine PySem.W.callWith_M (K := K) (h₀ := base) (first := []) I3.ok.mod.kin (news_at hL hbn hq) List.mem_cons_self SC.fi ?_ (hst _) (hpl _)
  refine thn (hta.run cpos _ _ _ H _ I3 hgo) fun ws s4 ⟨vs4, H4, I4, r4, q4⟩ => ⟨⟨pin_at I4, I4.kIn⟩, ?_⟩
  have hroom : Room k (ncx CX0 P w K mg base N F f A outer s H E).A := hr.deeper _
  have z := wpAny_call (PySem.W.method_call (pin_at I4) (run_fnR (us := .ref x :: ws) (vs := .ref x :: vs4) G hroom pass0 I4 (.cons rfl r4) q4))
  refine wpAny_mono z (fun u s5 h5 => ?_) (fun e s5 h5 => ?_)
  · obtain ⟨v5, H5, I5, r5, q5⟩ := h5
    refine _root_.PySem.wpAt_of_wpAny ?_
    refine wpAny_mono (htr.run _ s5 _ H5 _ I5 q5) (fun fl s' hs => ?_) fun e s' hs => hs
    have fin : ∀ {σ' : L2.St} {H' : Hp} {v : V} {u : Value} {pn : List (Addr × Obj)}, Inv (ncx CX0 P w K mg base N F f A outer s H E) pn σ' H' s' → RelV v u → Q v H' → CE outer P w H s Q u s' :=
      fun {σ' H' v u pn} J rv q => ⟨v, H', J.os, J.bare, J.base, J.hok, rv, q⟩
    cases fl with
    | ret u =>
      obtain ⟨v, σ', H', J, rv, q⟩ := hs
      exact fin J rv q
    | next =>
      obtain ⟨σ', H', J, q⟩ := hs
      exact fin (v := V.non) (u := Value.none) J rfl q
    | brk =>
      obtain ⟨_, _, _, q⟩ := hs
      exact False.elim q
    | cont =>
      obtain ⟨_, _, _, q⟩ := hs
      exact False.elim q
  · exact h5
end
end HS
/-! e.__class__, C.__name__, == and != by an own __eq__ with any answer -/
namespace HP
open PySem PySem.Spec PyProof.Rows L2 StX ClX
/-! ### the name of a class -/
structure ClsNm (K : PySem.W.Frag) (C : Addr) (nm : Str) : Prop where
  rd : PySem.W.readsIn K C (.type "type") = true
  at_ : PySem.W.findCls K (.ref C) (.type "type") "__name__" = some (.get (.builtin "getset_descriptor.__get__") (.builtin "type.__name__") (.ref C) (.type "type"))
  lk : ∃ (od : Option Addr) (cd : ClassData) (sl : Array (Option Value)) (tk : Tok), K.lookup C = some ⟨.type "type", od, .cls cd, sl⟩ ∧ sl[2]? = some (some (.str nm tk))
section
open PySem.W PySem.Calls Builtin Builtin.Getset_descriptor
variable {prog : Program} {w : World} {A : Around} {E : Value → Shared → Prop} {s : Shared} {R : Result → Shared → Prop} {C : Addr} {nm : Str} {tk : Tok} {od : Option Addr} {cd : ClassData} {sl : Array (Option Value)}
theorem nm_get {tp : Value} (hC : s.heap.get? C = some ⟨.type "type", od, .cls cd, sl⟩) (hs : sl[2]? = some (some (.str nm tk))) (h : R (.ok (.ret (.str nm tk))) s) :
    codeAny (model prog w) A (.call (.builtin "getset_descriptor.__get__") ⟨[.builtin "type.__name__", .ref C, tp], []⟩) R s := by
  obtain ⟨hh, g, dr, t, os⟩ := s
  have L0 : Looks (model prog w) hh (typeOf (.ref C)) (.type "type") := fun A Q E s k q => by
    refine wpAny_typeOf ⟨_, k _ _ hC, rfl⟩ q
  have L1 : Looks (model prog w) hh (isSubtype (.type "type") (.type "type")) true := Looks.of_pure (by rw [isSubtype_type]; kernel_rfl)
  refine codeAny_call_builtin KF.slot_gs.plain KF.entry_gs (KF.slot_gs.check _ _ _ _ _ _ _ _ ktyn_type (KF.args_gs _ _ _) ?_)
  unfold Builtin.«getset_descriptor.__get__» descrGet
  rw [dga_obj]
  refine wpAny_bind (wpAny_pure ?_)
  unfold descrGetter descrCheckInstance descrNameAndClass isInstance
  simp only [ktyn_owner]
  repeat lk
  refine ⟨Code.quiet_builtin _ (by decide +kernel), codeAny_builtin ktyn_entry ?_⟩
  unfold Builtin.«type.__name__» keptObject slotAt
  dsimp only
  refine wpAny_bind (wpAny_bind (wpAny_loadPart_at hC ?_))
  simp only [hs, Option.join]
  first
    | exact wpAny_pure (wpAny_bind (wpAny_pure (wpAny_pure h)))
    | exact wpAny_pure (wpAny_bind (wpAny_bind (wpAny_pure (wpAny_pure h))))
    | exact wpAny_pure (wpAny_pure h)
    | exact wpAny_pure (wpAny_bind (wpAny_pure h))
    | exact wpAny_bind (wpAny_pure (wpAny_pure h))
    | trace_state
end
section
variable {X : Cx} {e : Expr} {ta : TE} {K : PySem.W.Frag} {pos : Pos}
def tName (K : PySem.W.Frag) (ta : TE) : TE := fun σ H Q => ta σ H fun x H1 => ∃ C nm, x = .ref C ∧ ClsNm K C nm ∧ Q (.str nm) H1
theorem pe_name (he : PE X e ta) (hb : attributeBase e "__name__" X.env (eval e X.env) = eval e X.env := by rfl) (hK : X.K = K := by rfl) : PE X (.Attribute e "__name__" pos) (tName K ta) := by
  cases hK
  refine ⟨fun pins s σ H Q I h => ?_⟩
  refine attr_of hb (thn (he.run pins s σ H _ I h) fun u s1 ⟨x, H1, I1, rx, C, nm, ex, k, q⟩ => ?_)
  subst ex
  obtain rfl : u = Value.ref C := rx
  obtain ⟨od, cd, sl, tk, hl, hs⟩ := k.lk
  refine PySem.W.cls_bind I1.kIn k.rd k.at_ (wpAny_call (nm_get (s := { s1 with toks := s1.toks + 1 }) (I1.kIn _ _ hl) hs ?_))
  exact PySem.W.handed_on rfl ⟨.str nm, H1, I1.tok _, ⟨_, rfl⟩, q⟩
/-! ### the class of an instance -/
structure HasCls (K : PySem.W.Frag) (C : Addr) : Prop where
  pg : PySem.W.plainGet K C "__class__" = true
  hd : PySem.W.hasDictIn K C = true
  at_ : PySem.W.findIn K (.ref C) "__class__" = some (some (.builtin "object.__class__"))
  sp : PySem.W.specialIn K (.builtin "object.__class__") "__get__" = some (some (.builtin "getset_descriptor.__get__"))
  tk : PySem.W.takesIn K (.builtin "object.__class__") = some true
  ob : PySem.W.mroIn K C (.type "object") = some true
def tClass (K : PySem.W.Frag) (ta : TE) : TE := fun σ H Q => ta σ H fun x H1 => ∃ a C dx fs, x = .ref a ∧ H1 a = some (.ins C dx fs) ∧ HasCls K C ∧ Q (.ref C) H1
theorem pe_class (he : PE X e ta) (hb : attributeBase e "__class__" X.env (eval e X.env) = eval e X.env := by rfl) (hK : X.K = K := by rfl) : PE X (.Attribute e "__class__" pos) (tClass K ta) := by
  cases hK
  refine ⟨fun pins s σ H Q I h => ?_⟩
  refine attr_of hb (thn (he.run pins s σ H _ I h) fun u s1 ⟨x, H1, I1, rx, a, C, dx, fs, ex, ha, k, q⟩ => ?_)
  subst ex
  obtain rfl : u = Value.ref a := rx
  obtain ⟨mA, J, _⟩ := ins_get I1.hok ha
  obtain ⟨od, J, _⟩ := J.look
  obtain ⟨m, hF⟩ := I1.fr
  exact PySem.W.get_class hF I1.ok.mod.kin J k.pg k.hd k.at_ k.sp k.tk k.ob ⟨.ref C, H1, I1.tok _, rfl, q⟩
end
/-! ### == and != by an own __eq__ -/
structure EqCls (K : PySem.W.Frag) (C D f : Addr) : Prop where
  eq : PySem.W.findIn K (.ref C) "__eq__" = some (some (.ref f))
  fn : PySem.W.isFn K (.ref f) = true
  nf : PySem.W.notFirst K C (.ref D) = true
  ne : PySem.W.findIn K (.ref C) "__ne__" = some (some (.builtin "object.__ne__"))
  ob : PySem.W.mroIn K C (.type "object") = some true
def rEqO (neg : Bool) (K : PySem.W.Frag) (f : Addr) (sp : Sp) : R2 := fun x y H Q => ∃ a b C dx fs D dy gs, x = .ref a ∧ y = .ref b ∧ H a = some (.ins C dx fs) ∧ H b = some (.ins D dy gs) ∧ EqCls K C D f ∧
  sp [.ref a, .ref b] H (fun v H' => ∃ r, v = .bl r ∧ Q (.bl (if neg then !r else r)) H') E0
section
open PySem.W
variable {prog : Program} {w : World} {A : Around} {E : Value → Shared → Prop} {s : Shared} {K : Frag} {x C : Addr} {ox : Obj} {od : Option Obj} {b tb : Value}
theorem bind_ne (self : Value) : bindSpecial (.builtin "object.__ne__") self = pure (.builtin "object.__ne__", [self]) := PySem.F.slot_object_ne.bind self
theorem ifBound_ne {M : Model} {args : List Value} {Q : Option Value → Shared → Prop} (X : K.In s.heap) (I : InstAt s.heap x ox C od) (hs : findIn K (.ref C) "__ne__" = some (some (.builtin "object.__ne__")))
    (h : wpAny M A (call (.builtin "object.__ne__") (.ref x :: args)) (fun v => Q (some v)) E s) : wpAny M A (callSpecialIfBound? (.ref x) "__ne__" args) Q E s := by
  simp only [callSpecialIfBound?, bindSpecialIfBound?]
  refine wpAny_holding (wpAny_bind (wpAny_bind (wpAny_bind (I.type.here ((looks_findIn X hs).here ?_)))))
  refine wpAny_bind (wpAny_askSetting (wpAny_ite ?_))
  have fin : wpAny M A (call (.builtin "object.__ne__") ([.ref x] ++ args) >>= fun v => pure (some v)) Q E s := wpAny_bind (wpAny_mono h (fun v s' h' => wpAny_pure h') fun _ _ h' => h')
  split
  · exact wpAny_bind (wpAny_of_eq (bind_ne _) (wpAny_pure (by exact fin)))
  · exact wpAny_tryCatch (wpAny_bind (wpAny_of_eq (bind_ne _) (wpAny_pure (by exact fin))))
/-- x != b, where x's class has object's __ne__: by its __eq__ -/
theorem ne_run {f : Addr} {Q : Value → Shared → Prop} (hu : A.units + 2 < cLine) (X : K.In s.heap) (I : InstAt s.heap x ox C od) (hb : Looks (model prog w) s.heap (typeOf b) tb) (hn : notFirst K C tb = true)
    (hne : findIn K (.ref C) "__ne__" = some (some (.builtin "object.__ne__"))) (hs : findIn K (.ref C) "__eq__" = some (some (.ref f))) (hf : isFn K (.ref f) = true) (hob : mroIn K C (.type "object") = some true)
    (h : wpAny (model prog w) A.in1 (call (.ref f) [.ref x, b]) (fun v s' => ∃ r, v = .bool r ∧ Q (.bool (!r)) s') (fun _ _ => False) s) : wpAny (model prog w) A (richCompare .NotEq (.ref x) b) Q E s := by
  have one : wpAny (model prog w) A (tryCompare (.ref x) "__ne__" b) (fun r s' => ∃ v, r = some v ∧ Q v s') E s := by
    unfold tryCompare
    refine wpAny_bind (ifBound_ne X I hne ?_)
    have sub : Looks (model prog w) s.heap (isInstance (.ref x) (.type "object")) true := I.type.andThen (looks_mroIn X hob)
    refine wpAny_call (codeAny_call_builtin PySem.F.slot_object_ne.plain PySem.F.entry_object_ne (@check_slot (model prog w) _ _ s "object.__ne__" "object" "__ne__" (.ref x) [b] [] _ (by decide +kernel) (by decide +kernel) sub (PySem.F.args_object_ne_2 _ _) ?_))
    unfold Builtin.«object.__ne__»
    refine wpAny_bind (wpAny_of_eq (a := (Value.ref x, [b])) (by first | rfl | kernel_rfl) ?_)
    dsimp only
    refine wpAny_bind (wpAny_cRoomFor (show A.in1.units < cLine from by show A.units + 1 < cLine; omega) ?_)
    refine wpAny_bind (ifBound_K X I hs hf (wpAny_mono h (fun v s' hv => ?_) fun _ _ z => z.elim))
    obtain ⟨r, rfl, q⟩ := hv
    dsimp only
    exact wpAny_bind (wpAny_truthy_bool (wpAny_pure (wpAny_pure ⟨_, rfl, q⟩)))
  unfold richCompare
  simp only [oneThing_ref]
  refine wpAny_holding (wpAny_bind (wpAny_cRoomFor (by omega) ?_))
  refine wpAny_bind (I.type.here (wpAny_bind (hb.here ?_)))
  have X' := X
  split
  · rename_i q
    have e : subIn K tb (.ref C) = some false := by
      rcases Bool.or_eq_true_iff.mp hn with e | e
      · rw [beq_iff_eq.mp e] at q; simp at q
      · exact beq_iff_eq.mp e
    refine wpAny_bind ((looks_subIn X e).here ?_)
    simp only [Bool.false_eq_true, if_false]
    refine wpAny_bind (wpAny_mono one (fun r s' z => ?_) fun _ _ e => e)
    obtain ⟨v, rfl, hq⟩ := z
    exact wpAny_pure hq
  · refine wpAny_bind (wpAny_pure ?_)
    simp only [Bool.false_eq_true, if_false]
    refine wpAny_bind (wpAny_mono one (fun r s' z => ?_) fun _ _ e => e)
    obtain ⟨v, rfl, hq⟩ := z
    exact wpAny_pure hq
end
section
variable {X : Cx} {K : PySem.W.Frag} {n : Nat} {f : Addr} {fd : FuncData} {ps : List Str} {sp : Sp}
theorem eqO_run {A : Around} (F : FnOk X.prog X.w X.K X.mg X.base CX0 n f fd ps sp) (hb : Binds X.K fd ps []) {pins : List (Addr × Obj)} {σ : L2.St} {H : Hp} {s : Shared} {a b : Addr} {Q : VK} (hr : Room n A) (hA : A.frames = X.A.frames) (I : Inv X pins σ H s)
    (h : sp [.ref a, .ref b] H Q E0) : codeAny (model X.prog X.w) A (.call (.ref f) ⟨[.ref a, .ref b], []⟩) (fun r s' => match r with | .ok (.ret v) => EP X pins σ Q v s' | _ => False) s := by
  have e0 : Env0 X.prog X.w X.K X.mg X.base A X.stack s H := by
    have e := I.env0
    exact ⟨by rw [hA]; exact e.frames, e.mod, e.bs, e.bsz, e.funs, e.frf, e.hok, e.bare⟩
  have hl := F.len _ _ _ _ h
  have r2 : Vals [V.ref a, V.ref b] [Value.ref a, Value.ref b] := .cons rfl (.cons rfl .nil)
  refine codeAny_mono (F.run A X.stack s H ⟨[.ref a, .ref b], []⟩ [.ref a, .ref b] [.ref a, .ref b] _ E0 hr e0 (by
    have := hb s [.ref a, .ref b] I.kIn (by simpa using hl)
    simpa using this) r2 h) fun r s' hq => ?_
  cases r with
  | error e => exact hq.elim
  | ok fl =>
    cases fl with
    | ret w => exact I.after hq
    | next => exact False.elim hq
    | brk => exact False.elim hq
    | cont => exact False.elim hq
theorem op_eqO (F : FnOk X.prog X.w X.K X.mg X.base CX0 n f fd ps sp) (hb : Binds X.K fd ps []) (hr : Room n X.A) (hK : X.K = K := by rfl) : OpR X (compareOp .Eq) (rEqO false K f sp) := by
  cases hK
  intro pins s σ H x y v u Q I rx ry h
  obtain ⟨a, b, C, dx, fs, D, dy, gs, rfl, rfl, ha, hb', k, hs⟩ := h
  cases rx
  cases ry
  obtain ⟨mA, J, _⟩ := ins_get I.hok ha
  obtain ⟨mB, J', _⟩ := ins_get I.hok hb'
  obtain ⟨od, J, _⟩ := J.look
  obtain ⟨od', J', _⟩ := J'.look
  obtain ⟨m, hF⟩ := I.fr
  show wpAny (model X.prog X.w) X.A (richCompare .Eq (.ref a) (.ref b)) (EP X pins σ Q) X.xe s
  refine PySem.W.cmp_K (op := .Eq) (tb := .ref D) hr.units0 hF I.ok.mod.kin J J'.type k.nf k.eq k.fn ?_
  refine wpAny_call (codeAny_mono (eqO_run F hb hr rfl I hs) fun r s' hq => ?_)
  cases r with
  | error e => exact hq.elim
  | ok fl =>
    cases fl with
    | ret w =>
      obtain ⟨z, H', I', rz, r, ez, q⟩ := hq
      subst ez
      obtain rfl : w = Value.bool r := rz
      exact ⟨.bl r, H', I', rfl, q⟩
    | next => exact hq.elim
    | brk => exact hq.elim
    | cont => exact hq.elim
theorem op_neO (F : FnOk X.prog X.w X.K X.mg X.base CX0 n f fd ps sp) (hb : Binds X.K fd ps []) (hr : Room (n + 1) X.A) (hK : X.K = K := by rfl) : OpR X (compareOp .NotEq) (rEqO true K f sp) := by
  cases hK
  intro pins s σ H x y v u Q I rx ry h
  obtain ⟨a, b, C, dx, fs, D, dy, gs, rfl, rfl, ha, hb', k, hs⟩ := h
  cases rx
  cases ry
  obtain ⟨mA, J, _⟩ := ins_get I.hok ha
  obtain ⟨mB, J', _⟩ := ins_get I.hok hb'
  obtain ⟨od, J, _⟩ := J.look
  obtain ⟨od', J', _⟩ := J'.look
  show wpAny (model X.prog X.w) X.A (richCompare .NotEq (.ref a) (.ref b)) (EP X pins σ Q) X.xe s
  refine ne_run (tb := .ref D) (by have := hr.un; omega) I.kIn J J'.type k.nf k.ne k.eq k.fn k.ob ?_
  refine wpAny_call (codeAny_mono (eqO_run (A := X.A.in1) F hb hr.in1 rfl I hs) fun r s' hq => ?_)
  cases r with
  | error e => exact hq.elim
  | ok fl =>
    cases fl with
    | ret w =>
      obtain ⟨z, H', I', rz, r, ez, q⟩ := hq
      subst ez
      obtain rfl : w = Value.bool r := rz
      exact ⟨r, rfl, .bl (!r), H', I', rfl, q⟩
    | next => exact hq.elim
    | brk => exact hq.elim
    | cont => exact hq.elim
end
/-! ### comparisons in a row, however many -/
section
variable {X : Cx} {a b : Expr} {ta tb : TE} {op op' : CmpOp} {ops : List CmpOp} {b' : Expr} {bs : List Expr} {r : R2} {pos : Pos} {t : V → TE} {t2 : V → TT}
structure PCh (X : Cx) (ops : List CmpOp) (rs : List Expr) (t : V → TE) (t2 : V → TT) : Prop where
  run : ∀ (pos : Pos) (pins : List (Addr × Obj)) (s : Shared) (σ : L2.St) (H : Hp) (x : V) (v : Value) (Q : VK), Inv X pins σ H s → RelV x v → t x σ H Q →
    wpAny (model X.prog X.w) X.A (compareChain pos v ops (evalEach rs X.env)) (EP X pins σ Q) X.xe s
  tst : ∀ (pos : Pos) (pins : List (Addr × Obj)) (s : Shared) (σ : L2.St) (H : Hp) (x : V) (v : Value) (Q : Bool → Hp → Prop), Inv X pins σ H s → RelV x v → t2 x σ H Q →
    wpAny (model X.prog X.w) X.A (testChain pos v ops (evalEach rs X.env)) (TP X pins σ Q) X.xe s
def tChL (r : R2) (tb : TE) (x : V) : TE := fun σ H Q => tb σ H fun y H2 => r x y H2 Q
def tChL2 (r : R2) (tb : TE) (x : V) : TT := fun σ H Q => tb σ H fun y H2 => r x y H2 fun z H3 => ∃ k, z = .bl k ∧ Q k H3
def tChC (r : R2) (tb : TE) (t : V → TE) (x : V) : TE := fun σ H Q => tb σ H fun y H2 => r x y H2 fun z H3 => ∃ k, z = .bl k ∧ if k = true then t y σ H3 Q else Q (.bl false) H3
def tChC2 (r : R2) (tb : TE) (t : V → TT) (x : V) : TT := fun σ H Q => tb σ H fun y H2 => r x y H2 fun z H3 => ∃ k, z = .bl k ∧ if k = true then t y σ H3 Q else Q false H3
theorem pch_last (ho : OpR X (compareOp op) r) (hb : PE X b tb) : PCh X [op] [b] (tChL r tb) (tChL2 r tb) := by
  refine ⟨fun pos pins s σ H x v Q I rx h => ?_, fun pos pins s σ H x v Q I rx h => ?_⟩
  · exact chain_last (thn (hb.run pins s σ H _ I h) fun u s2 ⟨y, H2, I2, r2, q2⟩ => ho pins s2 σ H2 x y v u Q I2 rx r2 q2)
  · refine test_last (thn (hb.run pins s σ H _ I h) fun u s2 ⟨y, H2, I2, r2, q2⟩ => thn (ho pins s2 σ H2 x y v u _ I2 rx r2 q2) fun d s3 ⟨z, H3, I3, r3, k, e, q3⟩ => ?_)
    subst e
    cases r3
    exact wpAny_truthy_bool ⟨H3, I3, q3⟩
theorem pch_cons (ho : OpR X (compareOp op) r) (hb : PE X b tb) (hr : PCh X (op' :: ops) (b' :: bs) t t2) : PCh X (op :: op' :: ops) (b :: b' :: bs) (tChC r tb t) (tChC2 r tb t2) := by
  refine ⟨fun pos pins s σ H x v Q I rx h => ?_, fun pos pins s σ H x v Q I rx h => ?_⟩
  · refine chain_link (thn (hb.run pins s σ H _ I h) fun u s2 ⟨y, H2, I2, r2, q2⟩ => thn (ho pins s2 σ H2 x y v u _ I2 rx r2 q2) fun d s3 ⟨z, H3, I3, r3, k, e, q3⟩ => ?_)
    subst e
    cases r3
    refine wpAny_truthy_bool ?_
    cases k with
    | false => exact ⟨.bl false, H3, I3, rfl, q3⟩
    | true => exact hr.run pos pins s3 σ H3 y u Q I3 r2 q3
  · refine test_link (thn (hb.run pins s σ H _ I h) fun u s2 ⟨y, H2, I2, r2, q2⟩ => thn (ho pins s2 σ H2 x y v u _ I2 rx r2 q2) fun d s3 ⟨z, H3, I3, r3, k, e, q3⟩ => ?_)
    subst e
    cases r3
    refine wpAny_truthy_bool ?_
    cases k with
    | false => exact ⟨H3, I3, q3⟩
    | true => exact hr.tst pos pins s3 σ H3 y u Q I3 r2 q3
def tCh (ta : TE) (t : V → TE) : TE := fun σ H Q => ta σ H fun x H1 => t x σ H1 Q
def tCh2 (ta : TE) (t : V → TT) : TT := fun σ H Q => ta σ H fun x H1 => t x σ H1 Q
theorem pe_chN (ha : PE X a ta) (h : PCh X (op :: op' :: ops) (b :: b' :: bs) t t2) (hm : lastMarks (op :: op' :: ops) (b :: b' :: bs) = false := by with_unfolding_all rfl) : PE X (.Compare a (op :: op' :: ops) (b :: b' :: bs) pos) (tCh ta t) := by
  refine ⟨fun pins s σ H Q I q => ?_⟩
  exact Compare_chain (thn (ha.run pins s σ H _ I q) fun v s1 ⟨x, H1, I1, r1, q1⟩ => h.run pos pins s1 σ H1 x v Q I1 r1 q1) hm
theorem pt_chN (ha : PE X a ta) (h : PCh X (op :: op' :: ops) (b :: b' :: bs) t t2) (hm : lastMarks (op :: op' :: ops) (b :: b' :: bs) = false := by with_unfolding_all rfl) : PT X (.Compare a (op :: op' :: ops) (b :: b' :: bs) pos) (tCh2 ta t2) := by
  refine ⟨fun pins s σ H Q I q => ?_⟩
  exact isTrue_chain (thn (ha.run pins s σ H _ I q) fun v s1 ⟨x, H1, I1, r1, q1⟩ => h.tst pos pins s1 σ H1 x v Q I1 r1 q1) hm
end
end HP
/-! own classes: what a class must have; starred defs; fixed values; papers -/
namespace HC
open PySem PySem.Spec PyProof.Rows L2 HX
/-! ### a def with a starred parameter, by what the text must have -/
structure StarFun (K : PySem.W.Frag) (x qual : Str) (st : Stmt) (f : Addr) (ps : List Str) (pv : Str) : Prop where
  ex : ∃ (oc : Value) (od : Option Addr) (dV kV doc pm : Value) (an : Option Addr) (cdv ct : Value) (osl : Array (Option Value)),
    K.lookup f = some ⟨oc, od, .func (PySem.W.fnOf x qual (defArgs st) (defBody st) (defScope st) dV kV doc pm an cdv ct), osl⟩ ∧ PySem.W.codeIn K cdv qual = true ∧
    ∀ us rest : List Value, us.length = ps.length → bindArgs (PySem.W.fnOf x qual (defArgs st) (defBody st) (defScope st) dV kV doc pm an cdv ct) ⟨us ++ rest, []⟩ = (newTuple rest >>= fun t => pure (ps.zip us ++ [(pv, t)]))
def starS (ps : List Str) (sp : Sp) : Sp := fun vs H Q E => ∃ ws rest, vs = ws ++ rest ∧ ws.length = ps.length ∧ rest.length ≤ sizeLine ∧ ∀ p, H p = Option.none → sp (ws ++ [V.ref p]) (upd H p (.tup rest)) Q E
section
variable {P : Program} {w : World} {K : PySem.W.Frag} {mg : Str → Option Value} {base : Heap}
theorem star_ok {x qual : Str} {st : Stmt} {f : Addr} {N ps : List Str} {pv : Str} {k : Nat} {sp : Sp} (F : StarFun K x qual st f ps pv) (S : FnScope N (ps ++ [pv]) (defScope st))
    (hbody : ∀ (cdv : Value) (A : Around) (outer : List Env) (s : Shared) (H : Hp) (vs : List V) (Q : VK) (E : XK), Room k (A.deeper (envOfC qual (defScope st) s.heap.objs.size f cdv)) → sp vs H Q E →
      ∃ t, PSs (cxOf CX0 P w K mg base N qual (defScope st) f cdv A outer s H E).nox (defBody st) t ∧ t { nx := fun _ H' => Q .non H', rt := Q } (start N vs) H) : FnR P w K mg base CX0 (k + 1) f (starS ps sp) := by
  obtain ⟨oc, od, dV, kV, doc, pm, an, cdv, ct, osl, lk, hcd, hb⟩ := F.ex
  refine StX.fn_star lk hcd S (StX.cxUp_none) hb fun A outer s H vs Q E hr hsp => ?_
  obtain ⟨t, h, q⟩ := hbody cdv A outer s H vs Q E hr hsp
  exact ⟨t, h.nox, q⟩
theorem FnOk.nil {CX : CXT} {f : Addr} {fd : FuncData} {ps : List Str} {k : Nat} : FnOk P w K mg base CX k f fd ps (fun _ _ _ _ => False) :=
  ⟨fun _ _ _ _ z => z.elim, fun _ _ _ _ _ _ _ _ _ _ _ _ _ z => z.elim⟩
end
/-! ### rules that name the written part -/
section
variable {X : Cx} {K : PySem.W.Frag} {o e value tg l : Expr} {f : Str} {pos pos' : Pos} {ta tv tl te : TE}
theorem pe_fldK (he : PE X e ta) (hb : attributeBase e f X.env (eval e X.env) = eval e X.env := by rfl) (hK : X.K = K := by rfl) : PE X (.Attribute e f pos) (tFld K ta f) := by cases hK; exact pe_fld he hb
theorem ps_fldK (ha : PE X o ta) (hv : PE X value tv) (hs : swapsWith value (some (.Attribute o f pos')) pos.line X.env = pure false := by rfl) (hK : X.K = K := by rfl) : PS X (.Assign [.Attribute o f pos'] value pos) (sFld K ta tv f) := by cases hK; exact ps_fld ha hv hs
theorem pe_revK {k : Nat} {p1 p2 p3 : Pos} (he : PE X e te) (hK : X.K = K := by rfl) : PE X (.Subscript e (.Slice none none (some (.UnaryOp .USub (.Constant (.int 1) k p1) p2)) p3) pos) (tRevL K te) := by cases hK; exact pe_revL he
theorem call_isiTK (hK : X.K = K := by rfl) : CallR X (.builtin "isinstance") (rIsiT K) := by cases hK; exact call_isiT
theorem cr_sortedK (hK : X.K = K := by rfl) : CallR X (.builtin "sorted") (rSorted K) := by cases hK; exact cr_sorted
/-- for over a list or a tuple -/
def iSeq (K : PySem.W.Frag) (tl : TE) : TI := fun σ H R => iList K tl σ H R ∨ iTup K tl σ H R
theorem pi_seqK (hl : PE X l tl) (hK : X.K = K := by rfl) : PI X tg l (iSeq K tl) := by
  cases hK
  exact ⟨fun pins s σ H R I h => h.elim (fun z => (pi_list hl).run pins s σ H R I z) (fun z => (pi_tup hl).run pins s σ H R I z)⟩
end
/-! ### steps of a walk -/
section
variable {K : PySem.W.Frag} {σ : L2.St} {H : Hp} {Q : VK}
theorem fld_ {ta : TE} {f : Str} (h : ta σ H fun x H1 => ∃ a C dx fs v, x = .ref a ∧ H1 a = some (.ins C dx fs) ∧ Cls K C ∧ NoAttr K C f ∧ fs.lookup f = some v ∧ Q v H1) : tFld K ta f σ H Q := h
theorem fldE_ {a C dx : Addr} {fs : List (Str × V)} {v : V} {f : Str} {P : V → Prop} (e : H a = some (.ins C dx fs)) (c : Cls K C) (n : NoAttr K C f) (l : fs.lookup f = some v) (q : P v) :
    ∃ a' C dx fs v, V.ref a = .ref a' ∧ H a' = some (.ins C dx fs) ∧ Cls K C ∧ NoAttr K C f ∧ fs.lookup f = some v ∧ P v := ⟨a, C, dx, fs, v, rfl, e, c, n, l, q⟩
theorem setf_ {ta tv : TE} {f : Str} {nx bk ct : L2.St → Hp → Prop} {rt : VK} (h : tv σ H fun y H1 => ta σ H1 fun x H2 => ∃ a C dx fs, x = .ref a ∧ H2 a = some (.ins C dx fs) ∧ Cls K C ∧ NoAttr K C f ∧ fs.length < 1000 ∧ nx σ (upd H2 a (.ins C dx (putF f y fs)))) : sFld K ta tv f ⟨nx, rt, bk, ct⟩ σ H := h
theorem setE_ {a C dx : Addr} {fs : List (Str × V)} {f : Str} {y : V} {R : Hp → Prop} (e : H a = some (.ins C dx fs)) (c : Cls K C) (n : NoAttr K C f) (l : Nat.ble fs.length 900 = true) (q : R (upd H a (.ins C dx (putF f y fs)))) :
    ∃ a' C dx fs, V.ref a = .ref a' ∧ H a' = some (.ins C dx fs) ∧ Cls K C ∧ NoAttr K C f ∧ fs.length < 1000 ∧ R (upd H a' (.ins C dx (putF f y fs))) := ⟨a, C, dx, fs, rfl, e, c, n, by have := Nat.le_of_ble_eq_true l; omega, q⟩
theorem rev_ {te : TE} (h : te σ H fun x H1 => ∃ a xs, x = .ref a ∧ SqL K H1 a xs ∧ ∀ p, H1 p = none → Q (.ref p) (upd H1 p (.lst xs.reverse))) : tRevL K te σ H Q := h
theorem isiT_ {x : V} {tp : Addr} {cs : List V} {t : Value} {us : List Value} {b : Bool} (e : H tp = some (.tup cs)) (p : Paired ClsV cs us) (ty : TyX K H x t) (k : PySem.W.kitAny K t us = some b) (q : Q (.bl b) H) : rIsiT K [x, .ref tp] H Q := ⟨x, tp, cs, t, us, b, rfl, e, p, ty, k, q⟩
theorem cls_ {ta : TE} (h : ta σ H fun x H1 => ∃ a C dx fs, x = .ref a ∧ H1 a = some (.ins C dx fs) ∧ HP.HasCls K C ∧ Q (.ref C) H1) : HP.tClass K ta σ H Q := h
theorem name_ {ta : TE} (h : ta σ H fun x H1 => ∃ C nm, x = .ref C ∧ HP.ClsNm K C nm ∧ Q (.str nm) H1) : HP.tName K ta σ H Q := h
end
theorem make_ {C : Addr} {sp : Sp} {E : XK} {t : TA} {σ : L2.St} {H : Hp} {Q : VK} (h : t σ H fun vs H1 => ∀ x dx, H1 x = Option.none → H1 dx = Option.none → dx ≠ x → sp (V.ref x :: vs) (upd (upd H1 dx (.own x)) x (.ins C dx [])) (fun v H2 => v = .non ∧ Q (.ref x) H2) E) : StX.tMakeR C sp E t σ H Q := h
/-- i if c else j -/
theorem joinB_ {c : Bool} {i j : Int} {σ : L2.St} {H : Hp} {Q : VK} (h : ∀ e : Int, (c = true ∧ e = i ∨ c = false ∧ e = j) → Q (.int e) H) : if c = true then tC (.int i) σ H Q else tC (.int j) σ H Q := by
  cases c with
  | true => exact h i (.inl ⟨rfl, rfl⟩)
  | false => exact h j (.inr ⟨rfl, rfl⟩)
/-- i if c else -j -/
theorem joinN_ {c : Bool} {i j : Int} {σ : L2.St} {H : Hp} {Q : VK} (h : ∀ e : Int, (c = true ∧ e = i ∨ c = false ∧ e = -j) → Q (.int e) H) : if c = true then tC (.int i) σ H Q else tUn (rU fun i => V.int (-i)) (tC (.int j)) σ H Q := by
  cases c with
  | true => exact h i (.inl ⟨rfl, rfl⟩)
  | false => exact ⟨j, rfl, h (-j) (.inr ⟨rfl, rfl⟩)⟩
def rBool1 : List V → Hp → VK → Prop := fun xs H Q => (∃ i, xs = [.int i] ∧ Q (.bl (i != 0)) H) ∨ ∃ k, xs = [.bl k] ∧ Q (.bl k) H
theorem call_boolU {X : Cx} : CallR X (.type "bool") rBool1 := call_bool1
theorem bool_bl_ {b : Bool} {H : Hp} {Q : VK} (q : Q (.bl b) H) : rBool1 [.bl b] H Q := .inr ⟨b, rfl, q⟩
theorem clsE_ {a C dx : Addr} {fs : List (Str × V)} {H : Hp} {K : PySem.W.Frag} {P : Addr → Prop} (e : H a = some (.ins C dx fs)) (c : HP.HasCls K C) (q : P C) : ∃ a' C dx fs, V.ref a = .ref a' ∧ H a' = some (.ins C dx fs) ∧ HP.HasCls K C ∧ P C := ⟨a, C, dx, fs, rfl, e, c, q⟩
theorem nameE_ {C : Addr} {nm : Str} {K : PySem.W.Frag} {P : Str → Prop} (c : HP.ClsNm K C nm) (q : P nm) : ∃ C' nm, V.ref C = .ref C' ∧ HP.ClsNm K C' nm ∧ P nm := ⟨C, nm, rfl, c, q⟩
theorem eqd_ {x y : V} {d e : PyData} {H : Hp} {K : PySem.W.Frag} {Q : VK} (h1 : Dp K H x d) (h2 : Dp K H y e) (s1 : SeqAt.shaped d = true) (s2 : SeqAt.shaped e = true) (q : Q (.bl (PyData.eqv d e)) H) : rEqU K x y H Q := .inr ⟨d, e, h1, h2, s1, s2, q⟩
theorem ned_ {x y : V} {d e : PyData} {H : Hp} {K : PySem.W.Frag} {Q : VK} (h1 : Dp K H x d) (h2 : Dp K H y e) (s1 : SeqAt.shaped d = true) (s2 : SeqAt.shaped e = true) (q : Q (.bl (!PyData.eqv d e)) H) : rNeU K x y H Q := .inr ⟨d, e, h1, h2, s1, s2, q⟩
/-! ### the answer of isinstance for two classes of a tuple -/
theorem kitAny_two {K : PySem.W.Frag} {t c d : Value} {a b : Bool} (h1 : PySem.W.kitOne K t c = some a) (h2 : PySem.W.kitOne K t d = some b) : PySem.W.kitAny K t [c, d] = some (a || b) := by
  unfold PySem.W.kitAny
  rw [h1]
  cases a with
  | true => rfl
  | false =>
    show PySem.W.kitAny K t [d] = _
    unfold PySem.W.kitAny
    rw [h2]
    cases b <;> rfl
/-! ### fixed values -/
/-- values nested at most n deep, none too long, no dicts -/
def okP : Nat → PyData → Bool
  | 0, .list _ => false
  | 0, .tuple _ => false
  | _, .dict _ => false
  | n + 1, .list xs => Nat.ble xs.length 100000 && xs.all (okP n)
  | n + 1, .tuple xs => Nat.ble xs.length 100000 && xs.all (okP n)
  | _, _ => true
/-- a tuple for each list, n deep -/
def fixP : Nat → PyData → PyData
  | n + 1, .list xs => .tuple (xs.map (fixP n))
  | n + 1, .tuple xs => .tuple (xs.map (fixP n))
  | _, d => d
theorem same_sql {K : PySem.W.Frag} {H H' : Hp} {c : Addr} {xs : List V} (x : Same H H') (h : SqL K H c xs) : SqL K H' c xs := by
  rcases h with (h | ⟨o, h⟩) | h
  · exact .inl (.inl (x _ _ h))
  · exact .inl (.inr ⟨o, x _ _ h⟩)
  · exact .inr h
mutual
theorem dp_same {K : PySem.W.Frag} {H H' : Hp} (e : Same H H') : ∀ {v : V} {d : PyData}, Dp K H v d → Dp K H' v d
  | _, _, .non => .non
  | _, _, .bl b => .bl b
  | _, _, .int i => .int i
  | _, _, .str x => .str x
  | _, _, .lst s a => .lst (same_sql e s) (dpAll_same e a)
  | _, _, .tup s a => .tup (HX.same_sqt e s) (dpAll_same e a)
theorem dpAll_same {K : PySem.W.Frag} {H H' : Hp} (e : Same H H') : ∀ {vs : List V} {ds : List PyData}, DpAll K H vs ds → DpAll K H' vs ds
  | _, _, .nil => .nil
  | _, _, .cons a b => .cons (dp_same e a) (dpAll_same e b)
end
theorem dpAll_len {K : PySem.W.Frag} {H : Hp} : ∀ {vs : List V} {ds : List PyData}, DpAll K H vs ds → vs.length = ds.length
  | _, _, .nil => rfl
  | _, _, .cons _ b => by rw [List.length_cons, List.length_cons, dpAll_len b]
theorem dpAll_at {K : PySem.W.Frag} {H : Hp} : ∀ {vs : List V} {ds : List PyData}, DpAll K H vs ds → ∀ {i : Nat} {v : V}, vs[i]? = some v → ∃ d, ds[i]? = some d ∧ Dp K H v d
  | _, _, .cons a _, 0, _, h => by cases h; exact ⟨_, rfl, a⟩
  | _, _, .cons _ b, i + 1, _, h => dpAll_at b (i := i) h
theorem dpAll_snoc {K : PySem.W.Frag} {H : Hp} : ∀ {vs : List V} {ds : List PyData} {v : V} {d : PyData}, DpAll K H vs ds → Dp K H v d → DpAll K H (vs ++ [v]) (ds ++ [d])
  | _, _, _, _, .nil, h => .cons h .nil
  | _, _, _, _, .cons a b, h => .cons a (dpAll_snoc b h)
theorem dpAll_ints {K : PySem.W.Frag} {H : Hp} (ns : List Int) : DpAll K H (ns.map V.int) (ns.map PyData.int) := by
  induction ns with
  | nil => exact .nil
  | cons n r ih => exact .cons (.int n) ih
mutual
/-- a value without lists -/
inductive Dt (K : PySem.W.Frag) (H : Hp) : V → PyData → Prop
  | non : Dt K H .non .none
  | bl (b : Bool) : Dt K H (.bl b) (.bool b)
  | int (i : Int) : Dt K H (.int i) (.int i)
  | str (x : Str) : Dt K H (.str x) (.str x)
  | tup {a : Addr} {xs : List V} {ds : List PyData} : SqT K H a xs → DtAll K H xs ds → Dt K H (.ref a) (.tuple ds)
inductive DtAll (K : PySem.W.Frag) (H : Hp) : List V → List PyData → Prop
  | nil : DtAll K H [] []
  | cons {v : V} {vs : List V} {d : PyData} {ds : List PyData} : Dt K H v d → DtAll K H vs ds → DtAll K H (v :: vs) (d :: ds)
end
mutual
theorem Dt.dp {K : PySem.W.Frag} {H : Hp} : ∀ {v : V} {d : PyData}, Dt K H v d → Dp K H v d
  | _, _, .non => .non
  | _, _, .bl b => .bl b
  | _, _, .int i => .int i
  | _, _, .str x => .str x
  | _, _, .tup s a => .tup s (DtAll.dp a)
theorem DtAll.dp {K : PySem.W.Frag} {H : Hp} : ∀ {vs : List V} {ds : List PyData}, DtAll K H vs ds → DpAll K H vs ds
  | _, _, .nil => .nil
  | _, _, .cons a b => .cons (Dt.dp a) (DtAll.dp b)
end
mutual
theorem dt_same {K : PySem.W.Frag} {H H' : Hp} (e : Same H H') : ∀ {v : V} {d : PyData}, Dt K H v d → Dt K H' v d
  | _, _, .non => .non
  | _, _, .bl b => .bl b
  | _, _, .int i => .int i
  | _, _, .str x => .str x
  | _, _, .tup s a => .tup (HX.same_sqt e s) (dtAll_same e a)
theorem dtAll_same {K : PySem.W.Frag} {H H' : Hp} (e : Same H H') : ∀ {vs : List V} {ds : List PyData}, DtAll K H vs ds → DtAll K H' vs ds
  | _, _, .nil => .nil
  | _, _, .cons a b => .cons (dt_same e a) (dtAll_same e b)
end
/-- nothing but tuples: what no tuple is may change -/
def NoTup (H : Hp) (D : Addr) : Prop := ∀ xs, ¬ Rd H D (.tup xs)
theorem noTup_lst {H : Hp} {D : Addr} {xs : List V} (h : H D = some (.lst xs)) : NoTup H D := fun ys z => by
  rcases z with z | ⟨o, z⟩ <;> rw [h] at z <;> cases z
theorem noTup_ins {H : Hp} {D C dx : Addr} {fs : List (Str × V)} (h : H D = some (.ins C dx fs)) : NoTup H D := fun ys z => by
  rcases z with z | ⟨o, z⟩ <;> rw [h] at z <;> cases z
theorem noTup_none {H : Hp} {D : Addr} (h : H D = none) : NoTup H D := fun ys z => by
  rcases z with z | ⟨o, z⟩ <;> rw [h] at z <;> cases z
theorem sqt_upd {K : PySem.W.Frag} {H : Hp} {D a : Addr} {o : HO} {xs : List V} (n : NoTup H D) (h : SqT K H a xs) : SqT K (upd H D o) a xs := by
  rcases h with h | h
  · have na : a ≠ D := fun e => n xs (e ▸ h)
    refine .inl ?_
    rcases h with h | ⟨u, h⟩
    · exact .inl (by rw [upd_ne na]; exact h)
    · exact .inr ⟨u, by rw [upd_ne na]; exact h⟩
  · exact .inr h
mutual
theorem dt_upd {K : PySem.W.Frag} {H : Hp} {D : Addr} {o : HO} (n : NoTup H D) : ∀ {v : V} {d : PyData}, Dt K H v d → Dt K (upd H D o) v d
  | _, _, .non => .non
  | _, _, .bl b => .bl b
  | _, _, .int i => .int i
  | _, _, .str x => .str x
  | _, _, .tup s a => .tup (sqt_upd n s) (dtAll_upd n a)
theorem dtAll_upd {K : PySem.W.Frag} {H : Hp} {D : Addr} {o : HO} (n : NoTup H D) : ∀ {vs : List V} {ds : List PyData}, DtAll K H vs ds → DtAll K (upd H D o) vs ds
  | _, _, .nil => .nil
  | _, _, .cons a b => .cons (dt_upd n a) (dtAll_upd n b)
end
theorem dtAll_snoc {K : PySem.W.Frag} {H : Hp} : ∀ {vs : List V} {ds : List PyData} {v : V} {d : PyData}, DtAll K H vs ds → Dt K H v d → DtAll K H (vs ++ [v]) (ds ++ [d])
  | _, _, _, _, .nil, h => .cons h .nil
  | _, _, _, _, .cons a b, h => .cons a (dtAll_snoc b h)
theorem dtAll_ints {K : PySem.W.Frag} {H : Hp} (ns : List Int) : DtAll K H (ns.map V.int) (ns.map PyData.int) := by
  induction ns with
  | nil => exact .nil
  | cons n r ih => exact .cons (.int n) ih
/-- neither a list nor a tuple stands there -/
def NoSq (H : Hp) (D : Addr) : Prop := (∀ xs, ¬ Rd H D (.tup xs)) ∧ ∀ xs, ¬ Rd H D (.lst xs)
theorem noSq_ins {H : Hp} {D C dx : Addr} {fs : List (Str × V)} (h : H D = some (.ins C dx fs)) : NoSq H D :=
  ⟨noTup_ins h, fun ys (z : Rd H D (.lst ys)) => by
    rcases z with z | ⟨o, z⟩ <;> rw [h] at z <;> cases z⟩
theorem sql_upd {K : PySem.W.Frag} {H : Hp} {D a : Addr} {o : HO} {xs : List V} (n : NoSq H D) (h : SqL K H a xs) : SqL K (upd H D o) a xs := by
  rcases h with h | h
  · have na : a ≠ D := fun e => n.2 xs (e ▸ h)
    refine .inl ?_
    rcases h with h | ⟨u, h⟩
    · exact .inl (by rw [upd_ne na]; exact h)
    · exact .inr ⟨u, by rw [upd_ne na]; exact h⟩
  · exact .inr h
mutual
theorem dp_upd {K : PySem.W.Frag} {H : Hp} {D : Addr} {o : HO} (n : NoSq H D) : ∀ {v : V} {d : PyData}, Dp K H v d → Dp K (upd H D o) v d
  | _, _, .non => .non
  | _, _, .bl b => .bl b
  | _, _, .int i => .int i
  | _, _, .str x => .str x
  | _, _, .lst s a => .lst (sql_upd n s) (dpAll_upd n a)
  | _, _, .tup s a => .tup (sqt_upd n.1 s) (dpAll_upd n a)
theorem dpAll_upd {K : PySem.W.Frag} {H : Hp} {D : Addr} {o : HO} (n : NoSq H D) : ∀ {vs : List V} {ds : List PyData}, DpAll K H vs ds → DpAll K (upd H D o) vs ds
  | _, _, .nil => .nil
  | _, _, .cons a b => .cons (dp_upd n a) (dpAll_upd n b)
end
/-- a comprehension over values, each made without lists by f -/
theorem lcD {K : PySem.W.Frag} {te : TE} {vs : List Nat} {σ : L2.St} {D a : Addr} {j : Nat} {H1 : Hp} {Qd : Hp → Prop} {xs : List V} {ds : List PyData} {J : It} (f : PyData → PyData) (hJ : (J = Itl K a ∧ SqL K H1 a xs) ∨ (J = Itt K a ∧ SqT K H1 a xs))
    (hA : DpAll K H1 xs ds) (hn : H1 D = none) (hl : Nat.ble xs.length 100000 = true) (hw : ∀ x, wipe ((wipe σ vs).set j (some x)) vs = wipe σ vs)
    (hs : ∀ (i : Nat) x d H' R, xs[i]? = some x → ds[i]? = some d → Dp K H' x d → (∀ y H4, Same H' H4 → Dt K H4 y (f d) → R y H4) → te ((wipe σ vs).set j (some x)) H' R)
    (hd : ∀ ys H', Same H1 H' → DtAll K H' ys (ds.map f) → H' D = some (.lst ys) → Qd H') : LcG J (gName j) tYes te vs σ D H1 Qd := by
  have hl2 := Nat.le_of_ble_eq_true hl
  have hln := dpAll_len hA
  have go : ∀ (i : Nat) x ys H, xs[i]? = some x → i < xs.length → ys.length = i → (Same H1 H ∧ DtAll K H ys ((ds.take i).map f)) → H D = some (.lst ys) → te ((wipe σ vs).set j (some x)) H (HX.LcK (fun i ys H => Same H1 H ∧ DtAll K H ys ((ds.take i).map f)) xs.length D i) := fun i x ys H hx hi hy ⟨e, a⟩ hD => by
    obtain ⟨d, hd1, hd2⟩ := dpAll_at (dpAll_same e hA) hx
    refine hs i x d H _ hx hd1 hd2 fun y H4 e4 hy4 => ?_
    have hD4 := e4 _ _ hD
    refine HX.lcK_ hD4 hy hi (by omega) ⟨HX.same_upd (e.trans e4) hn, ?_⟩
    have z := dtAll_snoc (dtAll_upd (o := .lst (ys ++ [y])) (noTup_lst hD4) (dtAll_same e4 a)) (dt_upd (o := .lst (ys ++ [y])) (noTup_lst hD4) hy4)
    have hi2 : i < ds.length := by omega
    have hg : ds[i]'hi2 = d := (List.getElem?_eq_some_iff.mp hd1).2
    rw [List.take_add_one, hd1, List.map_append]
    exact z
  rcases hJ with ⟨rfl, hS⟩ | ⟨rfl, hS⟩
  · refine HX.lcL (xs := xs) (fun i ys H => Same H1 H ∧ DtAll K H ys ((ds.take i).map f)) hw ⟨HX.same_new hn, .nil⟩ (fun i ys H p => same_sql p.1 hS) go fun ys H hy p hD => ?_
    refine hd ys H p.1 ?_ hD
    have z := p.2
    rw [hln, List.take_length] at z
    exact z
  · refine HX.lcT (xs := xs) (fun i ys H => Same H1 H ∧ DtAll K H ys ((ds.take i).map f)) hw ⟨HX.same_new hn, .nil⟩ (fun i ys H p => HX.same_sqt p.1 hS) go fun ys H hy p hD => ?_
    refine hd ys H p.1 ?_ hD
    have z := p.2
    rw [hln, List.take_length] at z
    exact z
/-- is it a list or a tuple -/
def isSeq : PyData → Bool
  | .list _ => true
  | .tuple _ => true
  | _ => false
theorem isLT {K : PySem.W.Frag} {H : Hp} {v : V} {d : PyData} (h : Dp K H v d) : ∃ t, TyX K H v t ∧ PySem.W.kitAny K t [.type "list", .type "tuple"] = some (isSeq d) := by
  cases h with
  | non => exact ⟨_, .base .non, kitAny_two (a := false) (b := false) (kit_ty (by decide +kernel)) (kit_ty (by decide +kernel))⟩
  | bl b => exact ⟨_, .base (.bl _), kitAny_two (a := false) (b := false) (kit_ty (by decide +kernel)) (kit_ty (by decide +kernel))⟩
  | int b => exact ⟨_, .base (.int _), kitAny_two (a := false) (b := false) (kit_ty (by decide +kernel)) (kit_ty (by decide +kernel))⟩
  | str b => exact ⟨_, .base (.str _), kitAny_two (a := false) (b := false) (kit_ty (by decide +kernel)) (kit_ty (by decide +kernel))⟩
  | lst s _ =>
    refine ⟨.type "list", ?_, kitAny_two (a := true) (b := false) (kit_ty (by decide +kernel)) (kit_ty (by decide +kernel))⟩
    rcases s with (s | ⟨o, s⟩) | ⟨o, its, n, e, c, _⟩
    · exact .base (.lst s)
    · exact .base (.frz s)
    · exact .kList e c
  | tup s _ =>
    refine ⟨.type "tuple", ?_, kitAny_two (a := false) (b := true) (kit_ty (by decide +kernel)) (kit_ty (by decide +kernel))⟩
    rcases s with (s | ⟨o, s⟩) | ⟨o, its, n, e, c, _⟩
    · exact .base (.tup s)
    · exact .fTuple s
    · exact .kTuple e c
theorem okP_list {n : Nat} {xs : List PyData} (h : okP n (.list xs) = true) : ∃ m, n = m + 1 ∧ Nat.ble xs.length 100000 = true ∧ ∀ x ∈ xs, okP m x = true := by
  cases n with
  | zero => simp [okP] at h
  | succ m => rw [okP, Bool.and_eq_true, List.all_eq_true] at h; exact ⟨m, rfl, h.1, h.2⟩
theorem okP_tuple {n : Nat} {xs : List PyData} (h : okP n (.tuple xs) = true) : ∃ m, n = m + 1 ∧ Nat.ble xs.length 100000 = true ∧ ∀ x ∈ xs, okP m x = true := by
  cases n with
  | zero => simp [okP] at h
  | succ m => rw [okP, Bool.and_eq_true, List.all_eq_true] at h; exact ⟨m, rfl, h.1, h.2⟩
theorem dt_leaf {K : PySem.W.Frag} {H : Hp} {v : V} {d : PyData} {n : Nat} (h : Dp K H v d) (l : isSeq d = false) : Dt K H v (fixP n d) := by
  cases h with
  | non => cases n <;> exact .non
  | bl b => cases n <;> exact .bl b
  | int b => cases n <;> exact .int b
  | str b => cases n <;> exact .str b
  | lst s _ => cases l
  | tup s _ => cases l
/-! ### papers -/
structure PC (K : PySem.W.Frag) (CP C : Addr) (nm : Str) : Prop where
  cl : Cls K C
  hc : HP.HasCls K C
  nm : HP.ClsNm K C nm
  word : NoAttr K C "word"
  parts : NoAttr K C "parts"
  isP : PySem.W.kitOne K (.ref C) (.ref CP) = some true
theorem PC.ty {K : PySem.W.Frag} {CP C : Addr} {nm : Str} (p : PC K CP C nm) {H : Hp} {a dx : Addr} {fs : List (Str × V)} (e : H a = some (.ins C dx fs)) : TyX K H (.ref a) (.ref C) :=
  .base (.ins e p.cl p.hc.at_ p.hc.sp p.hc.tk p.hc.ob)
/-- at a stands a paper of class C with its word, its parts and further fields -/
def Pap (K : PySem.W.Frag) (H : Hp) (a C : Addr) (w : Str) (d : PyData) (ex : List (Str × V)) : Prop := ∃ dx t, H a = some (.ins C dx (("word", .str w) :: ("parts", t) :: ex)) ∧ Dt K H t d
theorem Pap.same {K : PySem.W.Frag} {H H' : Hp} {a C : Addr} {w : Str} {d : PyData} {ex : List (Str × V)} (h : Pap K H a C w d ex) (e : Same H H') : Pap K H' a C w d ex := by
  obtain ⟨dx, t, h1, h2⟩ := h
  exact ⟨dx, t, e _ _ h1, dt_same e h2⟩
/-- what was made at a free place changes nothing else -/
theorem made {H H' : Hp} {x dx : Addr} {o o' : HO} (hx : H x = none) (hd : H dx = none) (k : Kept x (upd (upd H dx o) x o') H') : Same H H' := fun b u hb => by
  have n1 : b ≠ x := fun z => by rw [z, hx] at hb; cases hb
  have n2 : b ≠ dx := fun z => by rw [z, hd] at hb; cases hb
  exact k b u n1 (by rw [upd_ne n1, upd_ne n2]; exact hb)
theorem putF_word {w : V} : putF "word" w [] = [(("word" : Str), w)] := rfl
theorem putF_parts {w t : V} : putF "parts" t [(("word" : Str), w)] = [(("word" : Str), w), (("parts" : Str), t)] := by
  unfold putF
  rw [if_neg (by decide)]
  rfl
theorem putF_third {f : Str} {w t u : V} (h : ("word" : Str) ≠ f) (h2 : ("parts" : Str) ≠ f) : putF f u [(("word" : Str), w), (("parts" : Str), t)] = [(("word" : Str), w), (("parts" : Str), t), (f, u)] := by
  unfold putF
  rw [if_neg h]
  unfold putF
  rw [if_neg h2]
  rfl
theorem lk_word {w : V} {r : List (Str × V)} : List.lookup ("word" : Str) ((("word" : Str), w) :: r) = some w := rfl
theorem lk_parts {w t : V} {r : List (Str × V)} : List.lookup ("parts" : Str) ((("word" : Str), w) :: (("parts" : Str), t) :: r) = some t := by
  rw [List.lookup_cons, show (("parts" : Str) == ("word" : Str)) = false by decide]; rfl
theorem lk_third {f : Str} {w t u : V} {r : List (Str × V)} (h : (f == ("word" : Str)) = false) (h2 : (f == ("parts" : Str)) = false) : List.lookup f ((("word" : Str), w) :: (("parts" : Str), t) :: (f, u) :: r) = some u := by
  rw [List.lookup_cons, h, List.lookup_cons, h2, List.lookup_cons, beq_self_eq_true]
/-- a new instance, filled, is a thing that was not there -/
theorem Pap.upd {K : PySem.W.Frag} {H : Hp} {a C : Addr} {w : Str} {d : PyData} {ex : List (Str × V)} {D : Addr} {o : HO} (h : Pap K H a C w d ex) (n : a ≠ D) (nt : NoTup H D) : Pap K (L2.upd H D o) a C w d ex := by
  obtain ⟨dx, t, h1, h2⟩ := h
  exact ⟨dx, t, by rw [upd_ne n]; exact h1, dt_upd nt h2⟩
end HC
/-! the words of a walk: hs one step, hr as many as go, hw the slots behind a wipe -/
local macro_rules | `(tactic| walk_at "h1") => `(tactic| with_reducible first
  | refine HX.seq_ ?_ | refine HX.asg_ ?_ | refine HX.op_ ?_ | refine HX.varS_ ?_ | refine HX.var0_ ?_ | refine HX.c_ ?_ | refine HX.gn0_ ?_ | refine HX.gnS_ ?_
  | refine HX.cons_ ?_ | refine HX.nil_ ?_ | refine HX.call_ ?_ | refine HX.cb_ ?_ | refine HX.ifS_ ?_ | refine HX.next_ ?_ | refine HX.ret_ ?_ | refine HX.drop_ ?_
  | refine HX.test_ ?_ | refine HX.b_ ?_ | refine HX.not_ ?_ | refine HX.and_ ?_ | refine HX.or_ ?_ | refine HX.notV_ ?_ | refine HX.andV_ ?_ | refine HX.orV_ ?_ | refine HX.if_ ?_
  | refine HX.i0_ ?_ | refine HX.add_int_ ?_ | refine HX.eq_int_ ?_ | refine HX.ne_int_ ?_ | refine HX.eq_bl_ ?_ | refine HX.ne_bl_ ?_ | refine HX.eq_str_ ?_ | refine HX.ne_str_ ?_
  | refine HX.un_ ?_ | refine HX.u_ ?_ | refine HX.tup_ ?_ | refine HX.lst_ ?_ | refine HX.ebl_ ?_ | refine HX.eint_ ?_ | refine HX.e1int_ ?_ | refine HX.e2int_ ?_
  | refine HX.isi_int_int ?_ | refine HX.isi_int_bool ?_ | refine HX.isi_bl_bool ?_ | refine HX.isi_bl_int ?_ | refine HX.int_int_ ?_ | refine HX.int_bl_ ?_
  | refine HX.par_ ?_ | refine HX.par3_ ?_ | refine HX.e2_ ?_ | refine HX.e3_ ?_ | refine HX.gcons_ ?_ | refine HX.gnil_ ?_ | refine HX.gsub_ ?_ | refine HX.enon_ ?_
  | refine HX.sl_ ?_ | refine HX.nopart_ ?_ | refine HX.part_ ?_ | refine HX.itup_ ?_ | refine HX.ilst_ ?_ | refine HX.irng1_ ?_ | refine HX.irng2_ ?_
  | refine HX.abs_ ?_ | refine HX.max2_ ?_ | refine HX.min2_ ?_ | refine HX.isN0_ ?_ | refine HX.isNi_ ?_ | refine HX.isNr_ ?_ | refine HX.isNs_ ?_ | refine HX.notN0_ ?_ | refine HX.notNi_ ?_ | refine HX.notNr_ ?_ | refine HX.notNs_ ?_
  | refine HX.for_ ?_ | refine HX.lc_ ?_ | refine HX.brk_ ?_ | refine HX.cont_ ?_ | refine HX.retN_ ?_ | refine HX.yes_ ?_)
local macro_rules | `(tactic| walk_at "h2") => `(tactic| first
  | ((with_reducible refine HX.iteT_ ?e ?_); (case e => (with_reducible rfl)))
  | ((with_reducible refine HX.iteF_ ?e ?_); (case e => (with_reducible rfl)))
  | ((with_reducible refine HX.iteT_ ?e ?_); (case e => first | rfl | (refine decide_eq_true ?_; first | assumption | omega)))
  | ((with_reducible refine HX.iteF_ ?e ?_); (case e => first | rfl | (refine decide_eq_false ?_; first | assumption | omega))))
local macro_rules | `(tactic| walk_at "h3") => `(tactic| first
  | ((with_reducible refine HX.i_ ?c ?_); (case c => first | (show (0 : Int) < _; omega) | (show HX.CMulU _ _; first | (refine HX.CMulU.l ?_; constructor <;> omega) | (refine HX.CMulU.r ?_; constructor <;> omega)) | (show L2.CDiv _ _; constructor <;> omega) | (show L2.CPow _ _; refine ⟨?_, ?_, ?_⟩ <;> omega)))
  | ((with_reducible refine HX.mod_ ?c ?_); (case c => omega))
  | ((with_reducible refine HX.sz_ ?c ?_); (case c => rfl)))
local macro_rules | `(tactic| walk_at "hu") => `(tactic| fail)
local macro_rules | `(tactic| walk_at "hs") => `(tactic| first | walk_at "h1" | walk_at "h3" | walk_at "h2" | walk_at "hu")
local macro_rules | `(tactic| walk_at "hr") => `(tactic| repeat (walk_at "hs"))
local macro_rules | `(tactic| walk_at "hw") => `(tactic| simp only [L2.wipe, List.map_cons, List.map_nil, List.set_cons_zero, List.set_cons_succ])
namespace K21
open PySem PySem.Spec PyProof.Rows L2 HX
def topS (i : Nat) : Stmt := PySem.Challenge.pw_fourthlike_k21_multiplied_the_power_stay.main.body.getD i (.Pass ⟨0, 0, 0, 0⟩)
abbrev s_fixed : Stmt := (topS 1)
abbrev n_fixed : List Str := ["value", "part"]
theorem sc_fixed : FnScope n_fixed ["value"] (defScope s_fixed) := ⟨rfl, rfl, rfl, by decide +kernel, rfl, by decide +kernel, by decide +kernel⟩
abbrev s_Paper_init : Stmt := (inClass (topS 2) 0)
abbrev n_Paper_init : List Str := ["self", "word", "parts"]
theorem sc_Paper_init : FnScope n_Paper_init ["self", "word", "parts"] (defScope s_Paper_init) := ⟨rfl, rfl, rfl, by decide +kernel, rfl, by decide +kernel, by decide +kernel⟩
abbrev s_Paper_eq : Stmt := (inClass (topS 2) 2)
abbrev n_Paper_eq : List Str := ["self", "other"]
theorem sc_Paper_eq : FnScope n_Paper_eq ["self", "other"] (defScope s_Paper_eq) := ⟨rfl, rfl, rfl, by decide +kernel, rfl, by decide +kernel, by decide +kernel⟩
abbrev s_is_integer : Stmt := (topS 5)
abbrev n_is_integer : List Str := ["value"]
theorem sc_is_integer : FnScope n_is_integer ["value"] (defScope s_is_integer) := ⟨rfl, rfl, rfl, by decide +kernel, rfl, by decide +kernel, by decide +kernel⟩
abbrev s_is_within : Stmt := (topS 6)
abbrev n_is_within : List Str := ["value", "least", "most"]
theorem sc_is_within : FnScope n_is_within ["value", "least", "most"] (defScope s_is_within) := ⟨rfl, rfl, rfl, by decide +kernel, rfl, by decide +kernel, by decide +kernel⟩
abbrev s_need_number : Stmt := (topS 14)
abbrev n_need_number : List Str := ["value", "part", "least", "most"]
theorem sc_need_number : FnScope n_need_number ["value", "part", "least", "most"] (defScope s_need_number) := ⟨rfl, rfl, rfl, by decide +kernel, rfl, by decide +kernel, by decide +kernel⟩
abbrev s_need_power : Stmt := (topS 15)
abbrev n_need_power : List Str := ["power"]
theorem sc_need_power : FnScope n_need_power ["power"] (defScope s_need_power) := ⟨rfl, rfl, rfl, by decide +kernel, rfl, by decide +kernel, by decide +kernel⟩
abbrev s_raised : Stmt := (topS 16)
abbrev n_raised : List Str := ["number", "many", "found", "_"]
theorem sc_raised : FnScope n_raised ["number", "many"] (defScope s_raised) := ⟨rfl, rfl, rfl, by decide +kernel, rfl, by decide +kernel, by decide +kernel⟩
abbrev s_lifted : Stmt := (topS 17)
abbrev n_lifted : List Str := ["a", "b", "c", "d", "power", "number"]
theorem sc_lifted : FnScope n_lifted ["a", "b", "c", "d", "power"] (defScope s_lifted) := ⟨rfl, rfl, rfl, by decide +kernel, rfl, by decide +kernel, by decide +kernel⟩
abbrev s_sum_at : Stmt := (topS 18)
abbrev n_sum_at : List Str := ["a", "b", "c", "d", "power", "first", "second", "third", "last"]
theorem sc_sum_at : FnScope n_sum_at ["a", "b", "c", "d", "power"] (defScope s_sum_at) := ⟨rfl, rfl, rfl, by decide +kernel, rfl, by decide +kernel, by decide +kernel⟩
abbrev s_need_four : Stmt := (topS 19)
abbrev n_need_four : List Str := ["a", "b", "c", "d", "power", "value", "part"]
theorem sc_need_four : FnScope n_need_four ["a", "b", "c", "d", "power"] (defScope s_need_four) := ⟨rfl, rfl, rfl, by decide +kernel, rfl, by decide +kernel, by decide +kernel⟩
abbrev s_sign_at : Stmt := (topS 20)
abbrev n_sign_at : List Str := ["a", "b", "c", "d", "power", "found"]
theorem sc_sign_at : FnScope n_sign_at ["a", "b", "c", "d", "power"] (defScope s_sign_at) := ⟨rfl, rfl, rfl, by decide +kernel, rfl, by decide +kernel, by decide +kernel⟩
abbrev s_holds_by : Stmt := (topS 21)
abbrev n_holds_by : List Str := ["a", "b", "c", "d", "power"]
theorem sc_holds_by : FnScope n_holds_by ["a", "b", "c", "d", "power"] (defScope s_holds_by) := ⟨rfl, rfl, rfl, by decide +kernel, rfl, by decide +kernel, by decide +kernel⟩
abbrev s_is_by : Stmt := (topS 22)
abbrev n_is_by : List Str := ["a", "b", "c", "d", "power"]
theorem sc_is_by : FnScope n_is_by ["a", "b", "c", "d", "power"] (defScope s_is_by) := ⟨rfl, rfl, rfl, by decide +kernel, rfl, by decide +kernel, by decide +kernel⟩
abbrev s_ByPower_init : Stmt := (inClass (topS 24) 0)
abbrev n_ByPower_init : List Str := ["self", "power", "__class__"]
theorem sc_ByPower_init : NdefX.NScope n_ByPower_init ["self", "power"] ["__class__"] (defScope s_ByPower_init) := NdefX.nscope_by (by decide +kernel)
abbrev s_Between_init : Stmt := (inClass (topS 25) 0)
abbrev n_Between_init : List Str := ["self", "low", "__class__"]
theorem sc_Between_init : NdefX.NScope n_Between_init ["self", "low"] ["__class__"] (defScope s_Between_init) := NdefX.nscope_by (by decide +kernel)
abbrev s_need_growing : Stmt := (topS 26)
abbrev n_need_growing : List Str := ["a", "b", "c", "d"]
theorem sc_need_growing : FnScope n_need_growing ["a", "b", "c", "d"] (defScope s_need_growing) := ⟨rfl, rfl, rfl, by decide +kernel, rfl, by decide +kernel, by decide +kernel⟩
abbrev s_least_step : Stmt := (topS 27)
abbrev n_least_step : List Str := ["a", "b", "c", "d", "side", "low", "high", "middle"]
theorem sc_least_step : FnScope n_least_step ["a", "b", "c", "d", "side"] (defScope s_least_step) := ⟨rfl, rfl, rfl, by decide +kernel, rfl, by decide +kernel, by decide +kernel⟩
abbrev s_power_of : Stmt := (topS 28)
abbrev n_power_of : List Str := ["a", "b", "c", "d", "side", "steps"]
theorem sc_power_of : FnScope n_power_of ["a", "b", "c", "d"] (defScope s_power_of) := ⟨rfl, rfl, rfl, by decide +kernel, rfl, by decide +kernel, by decide +kernel⟩
abbrev s__law_hat : Stmt := (topS 30)
abbrev n__law_hat : List Str := ["script", "cell"]
theorem sc__law_hat : FnScope n__law_hat ["script"] (defScope s__law_hat) := ⟨rfl, rfl, rfl, by decide +kernel, rfl, by decide +kernel, by decide +kernel⟩
abbrev s__law_lot : Stmt := (topS 31)
abbrev n__law_lot : List Str := ["hat", "many", "digit", "at", "cell", "great", "mixed"]
theorem sc__law_lot : FnScope n__law_lot ["hat", "many"] (defScope s__law_lot) := ⟨rfl, rfl, rfl, by decide +kernel, rfl, by decide +kernel, by decide +kernel⟩
abbrev s__law_one : Stmt := (topS 32)
abbrev n__law_one : List Str := ["hat", "some"]
theorem sc__law_one : FnScope n__law_one ["hat", "some"] (defScope s__law_one) := ⟨rfl, rfl, rfl, by decide +kernel, rfl, by decide +kernel, by decide +kernel⟩
abbrev s__law_raised : Stmt := (topS 33)
abbrev n__law_raised : List Str := ["number", "many", "found", "turn"]
theorem sc__law_raised : FnScope n__law_raised ["number", "many"] (defScope s__law_raised) := ⟨rfl, rfl, rfl, by decide +kernel, rfl, by decide +kernel, by decide +kernel⟩
abbrev s__law_grown : Stmt := (topS 34)
abbrev n__law_grown : List Str := ["hat", "most", "a", "b", "c"]
theorem sc__law_grown : FnScope n__law_grown ["hat", "most"] (defScope s__law_grown) := ⟨rfl, rfl, rfl, by decide +kernel, rfl, by decide +kernel, by decide +kernel⟩
abbrev s__law_power : Stmt := (topS 35)
abbrev n__law_power : List Str := ["hat"]
theorem sc__law_power : FnScope n__law_power ["hat"] (defScope s__law_power) := ⟨rfl, rfl, rfl, by decide +kernel, rfl, by decide +kernel, by decide +kernel⟩
abbrev s__law_same : Stmt := (topS 36)
abbrev n__law_same : List Str := ["four", "other", "power", "turned", "a", "b", "c", "d", "e", "f", "g", "h"]
theorem sc__law_same : FnScope n__law_same ["four", "other", "power", "turned"] (defScope s__law_same) := ⟨rfl, rfl, rfl, by decide +kernel, rfl, by decide +kernel, by decide +kernel⟩
abbrev s__law_times_right : Stmt := (topS 37)
abbrev n__law_times_right : List Str := ["hat", "many", "four", "number", "wide", "turn", "far", "power", "times"]
theorem sc__law_times_right : FnScope n__law_times_right ["hat"] (defScope s__law_times_right) := ⟨rfl, rfl, rfl, by decide +kernel, rfl, by decide +kernel, by decide +kernel⟩
abbrev s__law_divided : Stmt := (topS 38)
abbrev n__law_divided : List Str := ["found", "many"]
theorem sc__law_divided : FnScope n__law_divided ["found", "many"] (defScope s__law_divided) := ⟨rfl, rfl, rfl, by decide +kernel, rfl, by decide +kernel, by decide +kernel⟩
abbrev s__law_powers_right : Stmt := (topS 39)
abbrev n__law_powers_right : List Str := ["hat", "many", "four", "number", "wide", "power", "found"]
theorem sc__law_powers_right : FnScope n__law_powers_right ["hat"] (defScope s__law_powers_right) := ⟨rfl, rfl, rfl, by decide +kernel, rfl, by decide +kernel, by decide +kernel⟩
abbrev s__law_parts_right : Stmt := (topS 40)
abbrev n__law_parts_right : List Str := ["hat", "whole", "part", "parts", "turn", "four", "power", "other", "found", "turned"]
theorem sc__law_parts_right : FnScope n__law_parts_right ["hat"] (defScope s__law_parts_right) := ⟨rfl, rfl, rfl, by decide +kernel, rfl, by decide +kernel, by decide +kernel⟩
abbrev s_law : Stmt := (topS 41)
abbrev n_law : List Str := ["script", "hat", "lap"]
theorem sc_law : FnScope n_law ["script"] (defScope s_law) := ⟨rfl, rfl, rfl, by decide +kernel, rfl, by decide +kernel, by decide +kernel⟩
structure Tx (P : Program) (K : PySem.W.Frag) (mg : Str → Option Value) where
  f_fixed : Addr
  fd_fixed : FuncData
  F_fixed : Fun K "fixed" "fixed" s_fixed f_fixed fd_fixed
  g_fixed : mg "fixed" = some (.ref f_fixed)
  b_fixed : Binds K fd_fixed ["value"] []
  f_Paper_init : Addr
  f_Paper_eq : Addr
  fd_Paper_eq : FuncData
  F_Paper_eq : Fun K "__eq__" "Paper.__eq__" s_Paper_eq f_Paper_eq fd_Paper_eq
  b_Paper_eq : Binds K fd_Paper_eq ["self", "other"] []
  f_is_integer : Addr
  fd_is_integer : FuncData
  F_is_integer : Fun K "is_integer" "is_integer" s_is_integer f_is_integer fd_is_integer
  g_is_integer : mg "is_integer" = some (.ref f_is_integer)
  b_is_integer : Binds K fd_is_integer ["value"] []
  f_is_within : Addr
  fd_is_within : FuncData
  F_is_within : Fun K "is_within" "is_within" s_is_within f_is_within fd_is_within
  g_is_within : mg "is_within" = some (.ref f_is_within)
  b_is_within : Binds K fd_is_within ["value", "least", "most"] []
  f_need_number : Addr
  fd_need_number : FuncData
  F_need_number : Fun K "need_number" "need_number" s_need_number f_need_number fd_need_number
  g_need_number : mg "need_number" = some (.ref f_need_number)
  b_need_number : Binds K fd_need_number ["value", "part", "least", "most"] []
  f_need_power : Addr
  fd_need_power : FuncData
  F_need_power : Fun K "need_power" "need_power" s_need_power f_need_power fd_need_power
  g_need_power : mg "need_power" = some (.ref f_need_power)
  b_need_power : Binds K fd_need_power ["power"] []
  f_raised : Addr
  fd_raised : FuncData
  F_raised : Fun K "raised" "raised" s_raised f_raised fd_raised
  g_raised : mg "raised" = some (.ref f_raised)
  b_raised : Binds K fd_raised ["number", "many"] []
  f_lifted : Addr
  fd_lifted : FuncData
  F_lifted : Fun K "lifted" "lifted" s_lifted f_lifted fd_lifted
  g_lifted : mg "lifted" = some (.ref f_lifted)
  b_lifted : Binds K fd_lifted ["a", "b", "c", "d", "power"] []
  f_sum_at : Addr
  fd_sum_at : FuncData
  F_sum_at : Fun K "sum_at" "sum_at" s_sum_at f_sum_at fd_sum_at
  g_sum_at : mg "sum_at" = some (.ref f_sum_at)
  b_sum_at : Binds K fd_sum_at ["a", "b", "c", "d", "power"] []
  f_need_four : Addr
  fd_need_four : FuncData
  F_need_four : Fun K "need_four" "need_four" s_need_four f_need_four fd_need_four
  g_need_four : mg "need_four" = some (.ref f_need_four)
  b_need_four : Binds K fd_need_four ["a", "b", "c", "d", "power"] []
  f_sign_at : Addr
  fd_sign_at : FuncData
  F_sign_at : Fun K "sign_at" "sign_at" s_sign_at f_sign_at fd_sign_at
  g_sign_at : mg "sign_at" = some (.ref f_sign_at)
  b_sign_at : Binds K fd_sign_at ["a", "b", "c", "d", "power"] []
  f_holds_by : Addr
  fd_holds_by : FuncData
  F_holds_by : Fun K "holds_by" "holds_by" s_holds_by f_holds_by fd_holds_by
  g_holds_by : mg "holds_by" = some (.ref f_holds_by)
  b_holds_by : Binds K fd_holds_by ["a", "b", "c", "d", "power"] []
  f_is_by : Addr
  fd_is_by : FuncData
  F_is_by : Fun K "is_by" "is_by" s_is_by f_is_by fd_is_by
  g_is_by : mg "is_by" = some (.ref f_is_by)
  b_is_by : Binds K fd_is_by ["a", "b", "c", "d", "power"] []
  f_ByPower_init : Addr
  f_Between_init : Addr
  f_need_growing : Addr
  fd_need_growing : FuncData
  F_need_growing : Fun K "need_growing" "need_growing" s_need_growing f_need_growing fd_need_growing
  g_need_growing : mg "need_growing" = some (.ref f_need_growing)
  b_need_growing : Binds K fd_need_growing ["a", "b", "c", "d"] []
  f_least_step : Addr
  fd_least_step : FuncData
  F_least_step : Fun K "least_step" "least_step" s_least_step f_least_step fd_least_step
  g_least_step : mg "least_step" = some (.ref f_least_step)
  b_least_step : Binds K fd_least_step ["a", "b", "c", "d", "side"] []
  f_power_of : Addr
  fd_power_of : FuncData
  F_power_of : Fun K "power_of" "power_of" s_power_of f_power_of fd_power_of
  g_power_of : mg "power_of" = some (.ref f_power_of)
  b_power_of : Binds K fd_power_of ["a", "b", "c", "d"] []
  f__law_hat : Addr
  fd__law_hat : FuncData
  F__law_hat : Fun K "_law_hat" "_law_hat" s__law_hat f__law_hat fd__law_hat
  g__law_hat : mg "_law_hat" = some (.ref f__law_hat)
  b__law_hat : Binds K fd__law_hat ["script"] []
  f__law_lot : Addr
  fd__law_lot : FuncData
  F__law_lot : Fun K "_law_lot" "_law_lot" s__law_lot f__law_lot fd__law_lot
  g__law_lot : mg "_law_lot" = some (.ref f__law_lot)
  b__law_lot : Binds K fd__law_lot ["hat", "many"] []
  f__law_one : Addr
  fd__law_one : FuncData
  F__law_one : Fun K "_law_one" "_law_one" s__law_one f__law_one fd__law_one
  g__law_one : mg "_law_one" = some (.ref f__law_one)
  b__law_one : Binds K fd__law_one ["hat", "some"] []
  f__law_raised : Addr
  fd__law_raised : FuncData
  F__law_raised : Fun K "_law_raised" "_law_raised" s__law_raised f__law_raised fd__law_raised
  g__law_raised : mg "_law_raised" = some (.ref f__law_raised)
  b__law_raised : Binds K fd__law_raised ["number", "many"] []
  f__law_grown : Addr
  fd__law_grown : FuncData
  F__law_grown : Fun K "_law_grown" "_law_grown" s__law_grown f__law_grown fd__law_grown
  g__law_grown : mg "_law_grown" = some (.ref f__law_grown)
  b__law_grown : Binds K fd__law_grown ["hat", "most"] []
  f__law_power : Addr
  fd__law_power : FuncData
  F__law_power : Fun K "_law_power" "_law_power" s__law_power f__law_power fd__law_power
  g__law_power : mg "_law_power" = some (.ref f__law_power)
  b__law_power : Binds K fd__law_power ["hat"] []
  f__law_same : Addr
  fd__law_same : FuncData
  F__law_same : Fun K "_law_same" "_law_same" s__law_same f__law_same fd__law_same
  g__law_same : mg "_law_same" = some (.ref f__law_same)
  b__law_same : Binds K fd__law_same ["four", "other", "power", "turned"] []
  f__law_times_right : Addr
  fd__law_times_right : FuncData
  F__law_times_right : Fun K "_law_times_right" "_law_times_right" s__law_times_right f__law_times_right fd__law_times_right
  g__law_times_right : mg "_law_times_right" = some (.ref f__law_times_right)
  b__law_times_right : Binds K fd__law_times_right ["hat"] []
  f__law_divided : Addr
  fd__law_divided : FuncData
  F__law_divided : Fun K "_law_divided" "_law_divided" s__law_divided f__law_divided fd__law_divided
  g__law_divided : mg "_law_divided" = some (.ref f__law_divided)
  b__law_divided : Binds K fd__law_divided ["found", "many"] []
  f__law_powers_right : Addr
  fd__law_powers_right : FuncData
  F__law_powers_right : Fun K "_law_powers_right" "_law_powers_right" s__law_powers_right f__law_powers_right fd__law_powers_right
  g__law_powers_right : mg "_law_powers_right" = some (.ref f__law_powers_right)
  b__law_powers_right : Binds K fd__law_powers_right ["hat"] []
  f__law_parts_right : Addr
  fd__law_parts_right : FuncData
  F__law_parts_right : Fun K "_law_parts_right" "_law_parts_right" s__law_parts_right f__law_parts_right fd__law_parts_right
  g__law_parts_right : mg "_law_parts_right" = some (.ref f__law_parts_right)
  b__law_parts_right : Binds K fd__law_parts_right ["hat"] []
  f_law : Addr
  fd_law : FuncData
  F_law : Fun K "law" "law" s_law f_law fd_law
  g_law : mg "law" = some (.ref f_law)
  b_law : Binds K fd_law ["script"] []
  C_Paper : Addr
  g_Paper : mg "Paper" = some (.ref C_Paper)
  C_ByPower : Addr
  g_ByPower : mg "ByPower" = some (.ref C_ByPower)
  C_Denial : Addr
  g_Denial : mg "Denial" = some (.ref C_Denial)
  C_Between : Addr
  g_Between : mg "Between" = some (.ref C_Between)
  SF_Paper_init : HC.StarFun K "__init__" "Paper.__init__" s_Paper_init f_Paper_init ["self", "word"] "parts"
  cc_ByPower_init : Addr
  ca_ByPower_init : Addr
  SD_ByPower_init : HS.SupDef P K mg ⟨"__init__", "ByPower.__init__", defArgs s_ByPower_init, defBody s_ByPower_init, defScope s_ByPower_init, [("__class__", cc_ByPower_init)], ca_ByPower_init⟩ f_ByPower_init C_ByPower cc_ByPower_init
  cc_Between_init : Addr
  ca_Between_init : Addr
  SD_Between_init : HS.SupDef P K mg ⟨"__init__", "Between.__init__", defArgs s_Between_init, defBody s_Between_init, defScope s_Between_init, [("__class__", cc_Between_init)], ca_Between_init⟩ f_Between_init C_Between cc_Between_init
  mk_Between : Mk K C_Between f_Between_init
  pc_Between : HC.PC K C_Paper C_Between "Between"
  su_Between_Between : HS.SupCls K C_Between C_Between "__init__" f_Paper_init
  na_Between_low : NoAttr K C_Between "low"
  is_Between_Paper : PySem.W.kitOne K (.ref C_Between) (.ref C_Paper) = some true
  is_Between_Between : PySem.W.kitOne K (.ref C_Between) (.ref C_Between) = some true
  is_Between_ByPower : PySem.W.kitOne K (.ref C_Between) (.ref C_ByPower) = some false
  eq_Between_Between : HP.EqCls K C_Between C_Between f_Paper_eq
  eq_Between_ByPower : HP.EqCls K C_Between C_ByPower f_Paper_eq
  mk_ByPower : Mk K C_ByPower f_ByPower_init
  pc_ByPower : HC.PC K C_Paper C_ByPower "ByPower"
  su_ByPower_ByPower : HS.SupCls K C_ByPower C_ByPower "__init__" f_Paper_init
  na_ByPower_power : NoAttr K C_ByPower "power"
  is_ByPower_Paper : PySem.W.kitOne K (.ref C_ByPower) (.ref C_Paper) = some true
  is_ByPower_Between : PySem.W.kitOne K (.ref C_ByPower) (.ref C_Between) = some false
  is_ByPower_ByPower : PySem.W.kitOne K (.ref C_ByPower) (.ref C_ByPower) = some true
  eq_ByPower_Between : HP.EqCls K C_ByPower C_Between f_Paper_eq
  eq_ByPower_ByPower : HP.EqCls K C_ByPower C_ByPower f_Paper_eq
  z_abs : mg "abs" = none
  z_bool : mg "bool" = none
  z_int : mg "int" = none
  z_isinstance : mg "isinstance" = none
  z_len : mg "len" = none
  z_list : mg "list" = none
  z_range : mg "range" = none
  z_sorted : mg "sorted" = none
  z_tuple : mg "tuple" = none
  t_MOST_POWER : Tok
  c_MOST_POWER : mg "MOST_POWER" = some (.int 80 t_MOST_POWER)
  t_MOST_NUMBER : Tok
  c_MOST_NUMBER : mg "MOST_NUMBER" = some (.int 1000000 t_MOST_NUMBER)
  t_MOST_TOLD : Tok
  c_MOST_TOLD : mg "MOST_TOLD" = some (.int 99 t_MOST_TOLD)
namespace Tx
variable {P : Program} {K : PySem.W.Frag} {mg : Str → Option Value}
theorem r_MOST_POWER (T : Tx P K mg) : RelV (.int 80) (.int 80 T.t_MOST_POWER) := ⟨_, rfl⟩
theorem r_MOST_NUMBER (T : Tx P K mg) : RelV (.int 1000000) (.int 1000000 T.t_MOST_NUMBER) := ⟨_, rfl⟩
theorem r_MOST_TOLD (T : Tx P K mg) : RelV (.int 99) (.int 99 T.t_MOST_TOLD) := ⟨_, rfl⟩
end Tx
end K21
namespace K21
open PySem PySem.Spec PyProof.Rows L2 HX
section
variable {P : Program} {w : World} {K : PySem.W.Frag} {mg : Str → Option Value} {base : Heap}
def sp_fixed (n : Nat) (K : PySem.W.Frag) : Sp := fun vs H Q _ => ∃ v d, vs = [v] ∧ Dp K H v d ∧ HC.okP n d = true ∧ ∀ v' H', Same H H' → HC.Dt K H' v' (HC.fixP n d) → Q v' H'
def sp_fixedB (K : PySem.W.Frag) : Nat → Sp
  | 0 => fun _ _ _ _ => False
  | n + 1 => sp_fixed n K
theorem fixed_step (T : Tx P K mg) (n : Nat) (ih : FnOk P w K mg base CX0 n T.f_fixed T.fd_fixed ["value"] (sp_fixedB K n)) : FnOk P w K mg base CX0 (n + 1) T.f_fixed T.fd_fixed ["value"] (sp_fixed n K) := by
  refine T.F_fixed.ok sc_fixed (fun vs H Q E h => ?_) (fun cdv A outer s H vs Q E hr h => ?_)
  · obtain ⟨v, d, rfl, _⟩ := h; rfl
  obtain ⟨v, d, rfl, hd, ok, q⟩ := h
  refine ⟨_, (pss_cons (ps_if (pt_not (pt_val (pe_callB (HC.call_isiTK (K := K)) (by rfl) T.z_isinstance (by decide +kernel) (pa_cons (pv 0) (pa_cons (pe_tup (pa_cons (pe_bltn (v := .ty "list") (by rfl) T.z_list (by decide +kernel) rfl) (pa_cons (pe_bltn (v := .ty "tuple") (by rfl) T.z_tuple (by decide +kernel) rfl) pa_nil))) pa_nil))))) (pss_one (ps_ret (pv 0))) pss_nil)
      (pss_one (ps_ret (pe_callTy (call_tupleK (K := K)) (by rfl) T.z_tuple (by decide +kernel) (pa_cons (pe_lc (own := [("part", 1)]) (g := gName 1) (tt := tYes) (by rfl) sc_fixed.nd (HC.pi_seqK (K := K) (pv 0)) (blkOk_by (own := [("part", 1)]) (N := n_fixed) (sc := defScope s_fixed) (by decide +kernel)) (fun _ _ _ _ _ => (pg_name (i := 1) sc_fixed.nd rfl (by first | exact .inl rfl | exact .inr rfl))) (fun _ _ _ _ _ => pts_nil) (fun _ _ _ _ _ => (pe_call ih hr (by rfl) T.g_fixed T.F_fixed.kp T.b_fixed .nil pass0 (pa_cons (pv 1) pa_nil)))) pa_nil))))), ?_⟩
  refine HX.start_ (σ := [some v, none]) rfl ?_
  walk_at "hr"
  intro p hp
  have sm := HX.same_new (o := HO.tup [V.ty "list", V.ty "tuple"]) hp
  obtain ⟨t, ty, k⟩ := HC.isLT (HC.dp_same sm hd)
  walk_at "hr"
  refine HC.isiT_ upd_same (.cons (.ty _) (.cons (.ty _) .nil)) ty k ?_
  generalize (upd H p (HO.tup [V.ty "list", V.ty "tuple"])) = H1 at sm ⊢
  have hd1 := HC.dp_same sm hd
  cases hq : HC.isSeq d with
  | false =>
    walk_at "hr"
    exact q v _ sm (HC.dt_leaf hd1 hq)
  | true =>
    walk_at "hr"
    obtain ⟨a, xs, ds, J, m, rfl, hnm, hJ, hA, hl, hs, hiter, hfix⟩ : ∃ (a : Addr) (xs : List V) (ds : List PyData) (J : It) (m : Nat), v = .ref a ∧ n = m + 1 ∧ ((J = Itl K a ∧ SqL K H1 a xs) ∨ (J = Itt K a ∧ SqT K H1 a xs)) ∧ DpAll K H1 xs ds ∧ Nat.ble xs.length 100000 = true ∧ (∀ x ∈ ds, HC.okP m x = true) ∧
        (∀ R : It → Hp → Prop, R J H1 → HC.iSeq K (tVar 0) [some v, none] H1 R) ∧ HC.fixP n d = .tuple (ds.map (HC.fixP m)) := by
      cases hd1 with
      | lst s al =>
        obtain ⟨m, rfl, h1, h2⟩ := HC.okP_list ok
        exact ⟨_, _, _, _, m, rfl, rfl, .inl ⟨rfl, s⟩, al, by rw [HC.dpAll_len al]; exact h1, h2, fun R r => .inl ⟨_, rfl, _, rfl, ⟨_, s⟩, r⟩, rfl⟩
      | tup s al =>
        obtain ⟨m, rfl, h1, h2⟩ := HC.okP_tuple ok
        exact ⟨_, _, _, _, m, rfl, rfl, .inr ⟨rfl, s⟩, al, by rw [HC.dpAll_len al]; exact h1, h2, fun R r => .inr ⟨_, rfl, _, rfl, ⟨_, s⟩, r⟩, rfl⟩
      | _ => cases hq
    subst hnm
    refine hiter _ ?_
    intro D hD
    refine HC.lcD (HC.fixP m) hJ hA hD hl (fun _ => rfl) (fun i x d' H' R hx hdx hxd k' => ?_) (fun ys H' e hys hL => ?_)
    · walk_at "hw"
      walk_at "hr"
      exact ⟨x, d', rfl, hxd, hs _ (List.mem_of_getElem? hdx), fun y H4 e4 h4 => k' y H4 e4 h4⟩
    · walk_at "hr"
      refine ⟨D, ys, rfl, .inl ⟨SqL.of hL, fun l hl2 => ?_⟩⟩
      have s2 := HX.same_new (o := HO.tup ys) hl2
      refine q _ _ ((sm.trans e).trans s2) ?_
      rw [hfix]
      exact .tup (SqT.of upd_same) (HC.dtAll_same s2 hys)
theorem ok_fixedN (T : Tx P K mg) : ∀ n, FnOk P w K mg base CX0 (n + 1) T.f_fixed T.fd_fixed ["value"] (sp_fixed n K)
  | 0 => fixed_step T 0 HC.FnOk.nil
  | n + 1 => fixed_step T (n + 1) (ok_fixedN T n)
theorem ok_fixed (T : Tx P K mg) : FnOk P w K mg base CX0 3 T.f_fixed T.fd_fixed ["value"] (sp_fixed 2 K) := ok_fixedN T 2
def sp_Paper_body (K : PySem.W.Frag) : Sp := fun vs H Q _ => ∃ (x C dx p : Addr) (w : Str) (xs : List V) (ds : List PyData), vs = [.ref x, .str w, .ref p] ∧ H x = some (.ins C dx []) ∧ Cls K C ∧ NoAttr K C "word" ∧ NoAttr K C "parts" ∧ SqT K H p xs ∧ DpAll K H xs ds ∧ HC.okP 2 (.tuple ds) = true ∧
  ∀ t H', Kept x H H' → H' x = some (.ins C dx [("word", .str w), ("parts", t)]) → HC.Dt K H' t (HC.fixP 2 (.tuple ds)) → Q .non H'
def sp_Paper_init (K : PySem.W.Frag) : Sp := HC.starS ["self", "word"] (sp_Paper_body K)
theorem ok_Paper_init (T : Tx P K mg) : FnR P w K mg base CX0 4 T.f_Paper_init (sp_Paper_init K) := by
  refine HC.star_ok T.SF_Paper_init sc_Paper_init (fun cdv A outer s H vs Q E hr h => ?_)
  obtain ⟨x, C, dx, p, w', xs, ds, rfl, hx, hc, nw, np, hp, hA, ok, q⟩ := h
  refine ⟨_, (pss_cons (HC.ps_fldK (K := K) (pv 0) (pv 1))
      (pss_one (HC.ps_fldK (K := K) (pv 0) (pe_call (ok_fixed T) (hr.mono (by decide)) (by rfl) T.g_fixed T.F_fixed.kp T.b_fixed .nil pass0 (pa_cons (pv 2) pa_nil))))), ?_⟩
  refine HX.start_ (σ := [some (V.ref x), some (V.str w'), some (V.ref p)]) rfl ?_
  walk_at "hr"
  refine HC.setf_ ?_
  walk_at "hr"
  refine HC.setE_ hx hc nw rfl ?_
  rw [HC.putF_word]
  have hx1 : (upd H x (.ins C dx [("word", V.str w')])) x = some (.ins C dx [("word", V.str w')]) := upd_same
  have k1 : Kept x H (upd H x (.ins C dx [("word", V.str w')])) := kept_upd (Kept.refl _ _)
  have hp1 := HC.sqt_upd (o := .ins C dx [("word", V.str w')]) (HC.noTup_ins hx) hp
  have hA1 := HC.dpAll_upd (o := .ins C dx [("word", V.str w')]) (HC.noSq_ins hx) hA
  generalize (upd H x (.ins C dx [("word", V.str w')])) = H1 at hx1 k1 hp1 hA1 ⊢
  walk_at "hr"
  refine HC.setf_ ?_
  walk_at "hr"
  refine ⟨.ref p, .tuple ds, rfl, .tup hp1 hA1, ok, fun v' H2 e2 hv => ?_⟩
  walk_at "hr"
  refine HC.setE_ (e2 _ _ hx1) hc np rfl ?_
  rw [HC.putF_parts]
  walk_at "hr"
  exact q v' _ (kept_upd (k1.trans (kept_same e2))) upd_same (HC.dt_upd (HC.noTup_ins (e2 _ _ hx1)) hv)
def sp_ByPower_init (T : Tx P K mg) : Sp := fun vs H Q _ => ∃ (x dx : Addr) (p : Int), vs = [.ref x, .int p] ∧ H x = some (.ins T.C_ByPower dx []) ∧
  ∀ H', Kept x H H' → HC.Pap K H' x T.C_ByPower "bypower" (.tuple [.int p]) [("power", .int p)] → Q .non H'
theorem ok_ByPower_init (T : Tx P K mg) : FnR P w K mg base CX0 5 T.f_ByPower_init (sp_ByPower_init T) := by
  refine HS.fn_super T.SD_ByPower_init rfl sc_ByPower_init rfl rfl rfl rfl rfl (fun _ => rfl) (fun _ => rfl) (fun _ => rfl) (fun _ => rfl) (fun _ => rfl) (fun vs H Q E h => ?_) (fun A outer s H vs Q E hr h => ?_)
  · obtain ⟨x, dx, p, rfl, hx, q⟩ := h; rfl
  obtain ⟨x, dx, p, rfl, hx, q⟩ := h
  refine ⟨x, T.C_ByPower, dx, _, [], _, _, _, _, rfl, hx, T.su_ByPower_ByPower, (ok_Paper_init T).mono (by decide), (pa_cons pe_str (pa_cons (pv 1) pa_nil)), (pss_one (HC.ps_fldK (K := K) (pv 0) (pe_ix (ix_K (K := K)) (HC.pe_fldK (K := K) (pv 0)) pe_int (fun _ _ => rfl)))), ?_⟩
  have pc := T.pc_ByPower
  rw [show NdefX.startF n_ByPower_init [V.ref x, V.int p] [none] = [some (V.ref x), some (V.int p), none] from rfl]
  walk_at "hr"
  refine ⟨[.ref x, .str "bypower"], [.int p], rfl, rfl, HX.size_ (Nat.le_of_ble_eq_true rfl), fun t ht => ?_⟩
  have s0 := HX.same_new (o := .tup [V.int p]) ht
  refine ⟨x, T.C_ByPower, dx, t, "bypower", [.int p], [.int p], rfl, s0 _ _ hx, pc.cl, pc.word, pc.parts, SqT.of upd_same, .cons (.int p) .nil, rfl, fun u H2 k2 h2 hu => ?_⟩
  walk_at "hr"
  refine HC.setf_ ?_
  walk_at "hr"
  refine HC.fld_ ?_
  walk_at "hr"
  refine HC.fldE_ h2 pc.cl pc.parts HC.lk_parts ?_
  walk_at "hr"
  cases hu with
  | tup hs ha =>
  cases ha with
  | cons a1 a2 =>
  cases a1
  cases a2
  refine HX.ixT_ hs rfl ?_
  walk_at "hr"
  refine HC.setE_ h2 pc.cl T.na_ByPower_power rfl ?_
  rw [HC.putF_third (by decide) (by decide)]
  refine q _ (kept_upd ((kept_same s0).trans k2)) ⟨dx, _, upd_same, .tup (HC.sqt_upd (HC.noTup_ins h2) hs) (.cons (.int p) .nil)⟩
def sp_Between_init (T : Tx P K mg) : Sp := fun vs H Q _ => ∃ (x dx : Addr) (p : Int), vs = [.ref x, .int p] ∧ H x = some (.ins T.C_Between dx []) ∧
  ∀ H', Kept x H H' → HC.Pap K H' x T.C_Between "between" (.tuple [.int p]) [("low", .int p)] → Q .non H'
theorem ok_Between_init (T : Tx P K mg) : FnR P w K mg base CX0 5 T.f_Between_init (sp_Between_init T) := by
  refine HS.fn_super T.SD_Between_init rfl sc_Between_init rfl rfl rfl rfl rfl (fun _ => rfl) (fun _ => rfl) (fun _ => rfl) (fun _ => rfl) (fun _ => rfl) (fun vs H Q E h => ?_) (fun A outer s H vs Q E hr h => ?_)
  · obtain ⟨x, dx, p, rfl, hx, q⟩ := h; rfl
  obtain ⟨x, dx, p, rfl, hx, q⟩ := h
  refine ⟨x, T.C_Between, dx, _, [], _, _, _, _, rfl, hx, T.su_Between_Between, (ok_Paper_init T).mono (by decide), (pa_cons pe_str (pa_cons (pv 1) pa_nil)), (pss_one (HC.ps_fldK (K := K) (pv 0) (pe_ix (ix_K (K := K)) (HC.pe_fldK (K := K) (pv 0)) pe_int (fun _ _ => rfl)))), ?_⟩
  have pc := T.pc_Between
  rw [show NdefX.startF n_Between_init [V.ref x, V.int p] [none] = [some (V.ref x), some (V.int p), none] from rfl]
  walk_at "hr"
  refine ⟨[.ref x, .str "between"], [.int p], rfl, rfl, HX.size_ (Nat.le_of_ble_eq_true rfl), fun t ht => ?_⟩
  have s0 := HX.same_new (o := .tup [V.int p]) ht
  refine ⟨x, T.C_Between, dx, t, "between", [.int p], [.int p], rfl, s0 _ _ hx, pc.cl, pc.word, pc.parts, SqT.of upd_same, .cons (.int p) .nil, rfl, fun u H2 k2 h2 hu => ?_⟩
  walk_at "hr"
  refine HC.setf_ ?_
  walk_at "hr"
  refine HC.fld_ ?_
  walk_at "hr"
  refine HC.fldE_ h2 pc.cl pc.parts HC.lk_parts ?_
  walk_at "hr"
  cases hu with
  | tup hs ha =>
  cases ha with
  | cons a1 a2 =>
  cases a1
  cases a2
  refine HX.ixT_ hs rfl ?_
  walk_at "hr"
  refine HC.setE_ h2 pc.cl T.na_Between_low rfl ?_
  rw [HC.putF_third (by decide) (by decide)]
  refine q _ (kept_upd ((kept_same s0).trans k2)) ⟨dx, _, upd_same, .tup (HC.sqt_upd (HC.noTup_ins h2) hs) (.cons (.int p) .nil)⟩
def sp_Paper_eq (T : Tx P K mg) : Sp := fun vs H Q _ => ∃ (a b C D : Addr) (u v nm nm' : Str) (d e : PyData) (ex ex' : List (Str × V)), vs = [.ref a, .ref b] ∧ HC.Pap K H a C u d ex ∧ HC.Pap K H b D v e ex' ∧ HC.PC K T.C_Paper C nm ∧ HC.PC K T.C_Paper D nm' ∧ SeqAt.shaped d = true ∧ SeqAt.shaped e = true ∧
  Q (.bl (decide (nm = nm') && (decide (u = v) && PyData.eqv d e))) H
theorem ok_Paper_eq (T : Tx P K mg) : FnOk P w K mg base CX0 1 T.f_Paper_eq T.fd_Paper_eq ["self", "other"] (sp_Paper_eq T) := by
  refine T.F_Paper_eq.ok sc_Paper_eq (fun vs H Q E h => ?_) (fun cdv A outer s H vs Q E hr h => ?_)
  · obtain ⟨a, b, C, D, u, v, nm, nm', d, e, ex, ex', rfl, ha, hb, pc, pd, sd, se, q⟩ := h; rfl
  obtain ⟨a, b, C, D, u, v, nm, nm', d, e, ex, ex', rfl, ha, hb, pc, pd, sd, se, q⟩ := h
  refine ⟨_, (pss_cons (ps_if (PW.pt (pw_or (pt_not (pt_val (pe_callB (call_isiK' (K := K)) (by rfl) T.z_isinstance (by decide +kernel) (pa_cons (pv 1) (pa_cons (pe_glob (v := .ref T.C_Paper) (by rfl) T.g_Paper rfl) pa_nil))))) (pw_or1 (pt_cmpR (op_neK (K := K) hr.units) (HP.pe_name (K := K) (HP.pe_class (K := K) (pv 0))) (HP.pe_name (K := K) (HP.pe_class (K := K) (pv 1))) (nomark _))))) (pss_one (ps_ret pe_bl)) pss_nil)
      (pss_one (ps_ret (pe_callTy HC.call_boolU (by rfl) T.z_bool (by decide +kernel) (pa_cons (pe_and (pe_cmpR (op_eqK (K := K) hr.units) (HC.pe_fldK (K := K) (pv 0)) (HC.pe_fldK (K := K) (pv 1)) (nomark _)) (pe_one (pe_cmpR (op_eqK (K := K) hr.units) (HC.pe_fldK (K := K) (pv 0)) (HC.pe_fldK (K := K) (pv 1)) (nomark _)))) pa_nil))))), ?_⟩
  refine HX.start_ (σ := [some (.ref a : V), some (.ref b : V)]) rfl ?_
  obtain ⟨dx, t, ha, ht⟩ := ha
  obtain ⟨dy, r, hb, hr2⟩ := hb
  walk_at "hr"
  refine HX.isi_ (.own _) (pd.ty hb) pd.isP ?_
  walk_at "hr"
  refine HC.name_ (HC.cls_ ?_)
  walk_at "hr"
  refine HC.clsE_ ha pc.hc ?_
  refine HC.nameE_ pc.nm ?_
  refine HC.name_ (HC.cls_ ?_)
  walk_at "hr"
  refine HC.clsE_ hb pd.hc ?_
  refine HC.nameE_ pd.nm ?_
  walk_at "hr"
  refine HX.itend_ (fun h => ?_) (fun h => ?_)
  · walk_at "hr"
    rw [decide_eq_false h] at q
    exact q
  · rw [decide_eq_true h] at q
    walk_at "hr"
    refine HC.fld_ ?_
    walk_at "hr"
    refine HC.fldE_ ha pc.cl pc.word HC.lk_word ?_
    refine HC.fld_ ?_
    walk_at "hr"
    refine HC.fldE_ hb pd.cl pd.word HC.lk_word ?_
    walk_at "hr"
    refine HX.ited_ (fun h2 => ?_) (fun h2 => ?_)
    · rw [decide_eq_true h2] at q
      walk_at "hr"
      refine HC.fld_ ?_
      walk_at "hr"
      refine HC.fldE_ ha pc.cl pc.parts HC.lk_parts ?_
      refine HC.fld_ ?_
      walk_at "hr"
      refine HC.fldE_ hb pd.cl pd.parts HC.lk_parts ?_
      refine HC.eqd_ ht.dp hr2.dp sd se ?_
      walk_at "hr"
      refine HC.bool_bl_ ?_
      walk_at "hr"
      exact q
    · rw [decide_eq_false h2] at q
      walk_at "hr"
      refine HC.bool_bl_ ?_
      walk_at "hr"
      exact q
def sp_is_integer (K : PySem.W.Frag) : Sp := fun vs H Q _ => ∃ i : Int, vs = [.int i] ∧ Q (.bl true) H
theorem ok_is_integer (T : Tx P K mg) : FnOk P w K mg base CX0 1 T.f_is_integer T.fd_is_integer ["value"] (sp_is_integer K) := by
  refine T.F_is_integer.ok sc_is_integer (fun vs H Q E h => ?_) (fun cdv A outer s H vs Q E hr h => ?_)
  · obtain ⟨i, rfl, _⟩ := h; rfl
  obtain ⟨i, rfl, q⟩ := h
  refine ⟨_, (pss_one (ps_ret (pe_and (pe_callB (call_isiK' (K := K)) (by rfl) T.z_isinstance (by decide +kernel) (pa_cons (pv 0) (pa_cons (pe_bltn (v := .ty "int") (by rfl) T.z_int (by decide +kernel) rfl) pa_nil))) (pe_one (pe_not (pe_callB (call_isiK' (K := K)) (by rfl) T.z_isinstance (by decide +kernel) (pa_cons (pv 0) (pa_cons (pe_bltn (v := .ty "bool") (by rfl) T.z_bool (by decide +kernel) rfl) pa_nil)))))))), ?_⟩
  refine HX.start_ (σ := [some (V.int i)]) rfl ?_
  walk_at "hr"
  exact q
theorem use_is_integer {i : Int} {H : Hp} {Q : VK} {E : XK} (q : Q (.bl true) H) : sp_is_integer K ([.int i] ++ []) H Q E := ⟨i, rfl, q⟩
local macro_rules | `(tactic| walk_at "hu") => `(tactic| with_reducible refine use_is_integer ?_)
def sp_is_within (K : PySem.W.Frag) : Sp := fun vs H Q _ => ∃ v lo hi : Int, vs = [.int v, .int lo, .int hi] ∧ lo ≤ v ∧ v ≤ hi ∧ Q (.bl true) H
theorem use_is_within {v lo hi : Int} {H : Hp} {Q : VK} {E : XK} (h : lo ≤ v ∧ v ≤ hi) (q : Q (.bl true) H) : sp_is_within K ([.int v, .int lo, .int hi] ++ []) H Q E := ⟨v, lo, hi, rfl, h.1, h.2, q⟩
theorem ok_is_within (T : Tx P K mg) : FnOk P w K mg base CX0 2 T.f_is_within T.fd_is_within ["value", "least", "most"] (sp_is_within K) := by
  refine T.F_is_within.ok sc_is_within (fun vs H Q E h => ?_) (fun cdv A outer s H vs Q E hr h => ?_)
  · obtain ⟨i, j, k, rfl, _⟩ := h; rfl
  obtain ⟨v, lo, hi, rfl, h1, h2, q⟩ := h
  refine ⟨_, (pss_cons (ps_if (PW.pt (pw_or (pt_not (pt_val (pe_call (ok_is_integer T) (hr.mono (by decide)) (by rfl) T.g_is_integer T.F_is_integer.kp T.b_is_integer .nil pass0 (pa_cons (pv 0) pa_nil)))) (pw_or1 (PW.pt (pw_and (pt_cmpR op_notNU (pv 1) pe_non (nomark _)) (pw_and1 (pt_cmpR op_lt (pv 0) (pv 1) (nomark _)))))))) (pss_one (ps_ret pe_bl)) pss_nil)
      (pss_one (ps_ret (pe_or (pe_cmpR op_isNU (pv 2) pe_non (nomark _)) (pe_one (pe_cmpR op_le (pv 0) (pv 2) (nomark _))))))), ?_⟩
  refine HX.start_ (σ := [some (V.int v), some (V.int lo), some (V.int hi)]) rfl ?_
  walk_at "hr"
  rw [decide_eq_true h2]
  exact q
local macro_rules | `(tactic| walk_at "hu") => `(tactic| ((with_reducible refine use_is_within ?c ?_); (case c => constructor <;> omega)))
def sp_need_number (K : PySem.W.Frag) : Sp := fun vs H Q _ => ∃ (v lo hi : Int) (z : Str), vs = [.int v, .str z, .int lo, .int hi] ∧ lo ≤ v ∧ v ≤ hi ∧ Q .non H
theorem use_need_number {v lo hi : Int} {z : Str} {H : Hp} {Q : VK} {E : XK} (h : lo ≤ v ∧ v ≤ hi) (q : Q .non H) : sp_need_number K ([.int v, .str z, .int lo, .int hi] ++ []) H Q E := ⟨v, lo, hi, z, rfl, h.1, h.2, q⟩
theorem ok_need_number (T : Tx P K mg) : FnOk P w K mg base CX0 3 T.f_need_number T.fd_need_number ["value", "part", "least", "most"] (sp_need_number K) := by
  refine T.F_need_number.ok sc_need_number (fun vs H Q E h => ?_) (fun cdv A outer s H vs Q E hr h => ?_)
  · obtain ⟨i, j, k, z, rfl, _⟩ := h; rfl
  obtain ⟨v, lo, hi, z, rfl, h1, h2, q⟩ := h
  refine ⟨_, (pss_one (ps_if (pt_not (pt_val (pe_call (ok_is_within T) (hr.mono (by decide)) (by rfl) T.g_is_within T.F_is_within.kp T.b_is_within .nil pass0 (pa_cons (pv 0) (pa_cons (pv 2) (pa_cons (pv 3) pa_nil)))))) (pss_one ps_never) pss_nil)), ?_⟩
  refine HX.start_ (σ := [some (V.int v), some (V.str z), some (V.int lo), some (V.int hi)]) rfl ?_
  walk_at "hr"
  exact q
local macro_rules | `(tactic| walk_at "hu") => `(tactic| ((with_reducible refine use_need_number ?c ?_); (case c => constructor <;> omega)))
def sp_need_power (K : PySem.W.Frag) : Sp := fun vs H Q _ => ∃ (p : Int), vs = [.int p] ∧ -80 ≤ p ∧ p ≤ 80 ∧ Q .non H
theorem use_need_power {p : Int} {H : Hp} {Q : VK} {E : XK} (h : -80 ≤ p ∧ p ≤ 80) (q : Q .non H) : sp_need_power K ([.int p] ++ []) H Q E := ⟨p, rfl, h.1, h.2, q⟩
theorem ok_need_power (T : Tx P K mg) : FnOk P w K mg base CX0 4 T.f_need_power T.fd_need_power ["power"] (sp_need_power K) := by
  refine T.F_need_power.ok sc_need_power (fun vs H Q E h => ?_) (fun cdv A outer s H vs Q E hr h => ?_)
  · obtain ⟨i, rfl, _⟩ := h; rfl
  obtain ⟨p, rfl, h1, h2, q⟩ := h
  refine ⟨_, (pss_one (ps_expr (pe_call (ok_need_number T) (hr.mono (by decide)) (by rfl) T.g_need_number T.F_need_number.kp T.b_need_number .nil pass0 (pa_cons (pv 0) (pa_cons pe_str (pa_cons (pe_un un_neg (pe_glob (by rfl) T.c_MOST_POWER T.r_MOST_POWER)) (pa_cons (pe_glob (by rfl) T.c_MOST_POWER T.r_MOST_POWER) pa_nil))))))), ?_⟩
  refine HX.start_ (σ := [some (V.int p)]) rfl ?_
  walk_at "hr"
  exact q
local macro_rules | `(tactic| walk_at "hu") => `(tactic| ((with_reducible refine use_need_power ?c ?_); (case c => constructor <;> omega)))
def sp_raised (K : PySem.W.Frag) : Sp := fun vs H Q _ => ∃ n k : Int, vs = [.int n, .int k] ∧ (0 ≤ k ∧ k ≤ 80) ∧ (-(2 ^ 64) < n ∧ n < 2 ^ 64) ∧ Q (.int (n ^ k.toNat)) H
theorem use_raised {n k : Int} {H : Hp} {Q : VK} {E : XK} (h : 0 ≤ k ∧ k ≤ 80) (hn : -(2 ^ 64) < n ∧ n < 2 ^ 64) (q : Q (.int (n ^ k.toNat)) H) : sp_raised K ([.int n, .int k] ++ []) H Q E := ⟨n, k, rfl, h, hn, q⟩
theorem ok_raised (T : Tx P K mg) : FnOk P w K mg base CX0 1 T.f_raised T.fd_raised ["number", "many"] (sp_raised K) := by
  refine T.F_raised.ok sc_raised (fun vs H Q E h => ?_) (fun cdv A outer s H vs Q E hr h => ?_)
  · obtain ⟨i, j, rfl, _⟩ := h; rfl
  obtain ⟨n, k, rfl, hk, hn, q⟩ := h
  refine ⟨_, (pss_cons (ps_set (i := 2) sc_raised.nd rfl (by first | exact .inl rfl | exact .inr rfl) pe_int)
      (pss_cons (ps_for PassesOwn.never (by rfl) (pi_range1 (by rfl) T.z_range (pa_cons (pv 1) pa_nil)) (pg_name (i := 3) sc_raised.nd rfl (by first | exact .inl rfl | exact .inr rfl)) (pss_one (ps_set (i := 2) sc_raised.nd rfl (by first | exact .inl rfl | exact .inr rfl) (pe_op op_mulU (pv 2) (pv 0)))))
      (pss_one (ps_ret (pv 2))))), ?_⟩
  refine HX.start_ (σ := [some (V.int n), some (V.int k), none, none]) rfl ?_
  walk_at "hr"
  refine ⟨by omega, by omega, ?_⟩
  refine for_range (lo := 0) (n := k.toNat) (fun i σ H' => H' = H ∧ ∃ y, σ = [some (.int n), some (.int k), some (.int (n ^ i)), y]) ⟨rfl, none, by rw [Int.pow_zero]⟩ ?_ ?_
  · rintro i σ H' hi ⟨rfl, y, rfl⟩
    walk_at "hr"
    exact ⟨rfl, _, by rw [Int.pow_succ]⟩
  · rintro σ H' ⟨rfl, y, rfl⟩
    walk_at "hr"
    exact q
local macro_rules | `(tactic| walk_at "hu") => `(tactic| ((with_reducible refine use_raised ?c ?d ?_); (case c => constructor <;> omega); (case d => first | assumption | (constructor <;> omega))))
theorem prod2_bd {x y : Int} {m n : Nat} (hx : 0 ≤ x ∧ x ≤ m) (hy : 0 ≤ y ∧ y ≤ n) : 0 ≤ x * y ∧ x * y ≤ ((m * n : Nat) : Int) := by
  refine ⟨Int.mul_nonneg hx.1 hy.1, ?_⟩
  rw [Int.natCast_mul]
  exact Int.mul_le_mul hx.2 hy.2 hy.1 (by omega)
theorem prod3_bd {x y z : Int} (hx : 1 ≤ x ∧ x ≤ 1000000) (hy : 1 ≤ y ∧ y ≤ 1000000) (hz : 1 ≤ z ∧ z ≤ 1000000) : -(2 ^ 64) < x * y * z ∧ x * y * z < 2 ^ 64 := by
  have h1 := prod2_bd (x := x) (y := y) (m := 1000000) (n := 1000000) (by omega) (by omega)
  have h2 := prod2_bd (x := x * y) (y := z) (m := 1000000 * 1000000) (n := 1000000) h1 (by omega)
  constructor <;> omega
/-- what lifted tells -/
def lift (a b c d p : Int) : List Int := if p < 0 then [(b * c * d) ^ (-p).toNat, (a * c * d) ^ (-p).toNat, (a * b * d) ^ (-p).toNat, (a * b * c) ^ (-p).toNat] else [a ^ p.toNat, b ^ p.toNat, c ^ p.toNat, d ^ p.toNat]
def S (a b c d p : Int) : Int := if p < 0 then (b * c * d) ^ (-p).toNat + (a * b * c) ^ (-p).toNat - (a * c * d) ^ (-p).toNat - (a * b * d) ^ (-p).toNat else a ^ p.toNat + d ^ p.toNat - b ^ p.toNat - c ^ p.toNat
structure Ok4 (a b c d : Int) : Prop where
  a : 1 ≤ a ∧ a ≤ 1000000
  b : 1 ≤ b ∧ b ≤ 1000000
  c : 1 ≤ c ∧ c ≤ 1000000
  d : 1 ≤ d ∧ d ≤ 1000000
def powV (k : Nat) : V → V
  | .int i => .int (i ^ k)
  | v => v
def sp_lifted (K : PySem.W.Frag) : Sp := fun vs H Q _ => ∃ a b c d p : Int, vs = [.int a, .int b, .int c, .int d, .int p] ∧ Ok4 a b c d ∧ (-80 ≤ p ∧ p ≤ 80) ∧ ∀ r H', Same H H' → H' r = some (.lst ((lift a b c d p).map V.int)) → Q (.ref r) H'
theorem ok_lifted (T : Tx P K mg) : FnOk P w K mg base CX0 2 T.f_lifted T.fd_lifted ["a", "b", "c", "d", "power"] (sp_lifted K) := by
  refine T.F_lifted.ok sc_lifted (fun vs H Q E h => ?_) (fun cdv A outer s H vs Q E hr h => ?_)
  · obtain ⟨a, b, c, d, p, rfl, o, hp, q⟩ := h; rfl
  obtain ⟨a, b, c, d, p, rfl, o, hp, q⟩ := h
  refine ⟨_, (pss_cons (ps_if (pt_cmpR op_lt (pv 4) pe_int (nomark _)) (pss_one (ps_ret (pe_lc (own := [("number", 5)]) (g := gName 5) (tt := tYes) (by rfl) sc_lifted.nd (pi_tupK (K := K) (pe_tup (pa_cons (pe_op op_mulU (pe_op op_mulU (pv 1) (pv 2)) (pv 3)) (pa_cons (pe_op op_mulU (pe_op op_mulU (pv 0) (pv 2)) (pv 3)) (pa_cons (pe_op op_mulU (pe_op op_mulU (pv 0) (pv 1)) (pv 3)) (pa_cons (pe_op op_mulU (pe_op op_mulU (pv 0) (pv 1)) (pv 2)) pa_nil)))))) (blkOk_by (own := [("number", 5)]) (N := n_lifted) (sc := defScope s_lifted) (by decide +kernel)) (fun _ _ _ _ _ => (pg_name (i := 5) sc_lifted.nd rfl (by first | exact .inl rfl | exact .inr rfl))) (fun _ _ _ _ _ => pts_nil) (fun _ _ _ _ _ => (pe_call (ok_raised T) (hr.mono (by decide)) (by rfl) T.g_raised T.F_raised.kp T.b_raised .nil pass0 (pa_cons (pv 5) (pa_cons (pe_un un_neg (pv 4)) pa_nil))))))) pss_nil)
      (pss_one (ps_ret (pe_lc (own := [("number", 5)]) (g := gName 5) (tt := tYes) (by rfl) sc_lifted.nd (pi_tupK (K := K) (pe_tup (pa_cons (pv 0) (pa_cons (pv 1) (pa_cons (pv 2) (pa_cons (pv 3) pa_nil)))))) (blkOk_by (own := [("number", 5)]) (N := n_lifted) (sc := defScope s_lifted) (by decide +kernel)) (fun _ _ _ _ _ => (pg_name (i := 5) sc_lifted.nd rfl (by first | exact .inl rfl | exact .inr rfl))) (fun _ _ _ _ _ => pts_nil) (fun _ _ _ _ _ => (pe_call (ok_raised T) (hr.mono (by decide)) (by rfl) T.g_raised T.F_raised.kp T.b_raised .nil pass0 (pa_cons (pv 5) (pa_cons (pv 4) pa_nil)))))))), ?_⟩
  refine HX.start_ (σ := [some (.int a : V), some (.int b : V), some (.int c : V), some (.int d : V), some (.int p : V), none]) rfl ?_
  obtain ⟨ha, hb, hc, hd⟩ := o
  walk_at "hr"
  refine HX.ited_ (fun h => ?_) (fun h => ?_)
  · walk_at "hr"
    intro t ht
    refine ⟨t, rfl, ⟨_, SqT.of upd_same⟩, ?_⟩
    intro D hD
    refine HX.lcTp (powV (-p).toNat) (SqT.of upd_same) hD rfl (fun _ => rfl) (fun i x H' R hx e k => ?_) (fun H' e hl => ?_)
    · have hx2 : ∃ z : Int, x = .int z ∧ -(2 ^ 64) < z ∧ z < 2 ^ 64 := by
        match i, hx with
        | 0, hx => cases hx; exact ⟨_, rfl, prod3_bd hb hc hd⟩
        | 1, hx => cases hx; exact ⟨_, rfl, prod3_bd ha hc hd⟩
        | 2, hx => cases hx; exact ⟨_, rfl, prod3_bd ha hb hd⟩
        | 3, hx => cases hx; exact ⟨_, rfl, prod3_bd ha hb hc⟩
      obtain ⟨z, rfl, hz⟩ := hx2
      walk_at "hw"
      walk_at "hr"
      exact k _ (Same.refl _)
    · refine q D H' ((same_new ht).trans e) ?_
      rw [hl]
      unfold lift
      rw [if_pos h]
      rfl
  · walk_at "hr"
    intro t ht
    refine ⟨t, rfl, ⟨_, SqT.of upd_same⟩, ?_⟩
    intro D hD
    refine HX.lcTp (powV p.toNat) (SqT.of upd_same) hD rfl (fun _ => rfl) (fun i x H' R hx e k => ?_) (fun H' e hl => ?_)
    · have hx2 : ∃ z : Int, x = .int z ∧ -(2 ^ 64) < z ∧ z < 2 ^ 64 := by
        match i, hx with
        | 0, hx => cases hx; exact ⟨_, rfl, by omega⟩
        | 1, hx => cases hx; exact ⟨_, rfl, by omega⟩
        | 2, hx => cases hx; exact ⟨_, rfl, by omega⟩
        | 3, hx => cases hx; exact ⟨_, rfl, by omega⟩
      obtain ⟨z, rfl, hz⟩ := hx2
      walk_at "hw"
      walk_at "hr"
      exact k _ (Same.refl _)
    · refine q D H' ((same_new ht).trans e) ?_
      rw [hl]
      unfold lift
      rw [if_neg h]
      rfl
def sp_sum_at (K : PySem.W.Frag) : Sp := fun vs H Q _ => ∃ a b c d p : Int, vs = [.int a, .int b, .int c, .int d, .int p] ∧ Ok4 a b c d ∧ (-80 ≤ p ∧ p ≤ 80) ∧ ∀ H', Same H H' → Q (.int (S a b c d p)) H'
theorem ok_sum_at (T : Tx P K mg) : FnOk P w K mg base CX0 3 T.f_sum_at T.fd_sum_at ["a", "b", "c", "d", "power"] (sp_sum_at K) := by
  refine T.F_sum_at.ok sc_sum_at (fun vs H Q E h => ?_) (fun cdv A outer s H vs Q E hr h => ?_)
  · obtain ⟨a, b, c, d, p, rfl, o, hp, q⟩ := h; rfl
  obtain ⟨a, b, c, d, p, rfl, o, hp, q⟩ := h
  refine ⟨_, (pss_cons (ps_asg (pe_call (ok_lifted T) (hr.mono (by decide)) (by rfl) T.g_lifted T.F_lifted.kp T.b_lifted .nil pass0 (pa_cons (pv 0) (pa_cons (pv 1) (pa_cons (pv 2) (pa_cons (pv 3) (pa_cons (pv 4) pa_nil)))))) (pg_unlK (K := K) 4 (by rfl) (pgs_cons (pg_name (i := 5) sc_sum_at.nd rfl (by first | exact .inl rfl | exact .inr rfl)) (pgs_cons (pg_name (i := 6) sc_sum_at.nd rfl (by first | exact .inl rfl | exact .inr rfl)) (pgs_cons (pg_name (i := 7) sc_sum_at.nd rfl (by first | exact .inl rfl | exact .inr rfl)) (pgs_cons (pg_name (i := 8) sc_sum_at.nd rfl (by first | exact .inl rfl | exact .inr rfl)) pgs_nil))))))
      (pss_one (ps_ret (pe_op op_sub (pe_op op_sub (pe_op (op_addK (K := K)) (pv 5) (pv 8)) (pv 6)) (pv 7))))), ?_⟩
  refine HX.start_ (σ := [some (.int a : V), some (.int b : V), some (.int c : V), some (.int d : V), some (.int p : V), none, none, none, none]) rfl ?_
  walk_at "hr"
  refine ⟨a, b, c, d, p, rfl, o, hp, fun r H' e hl => ?_⟩
  by_cases h : p < 0
  · have e2 : lift a b c d p = _ := if_pos h
    rw [e2] at hl
    simp only [List.map_cons, List.map_nil] at hl
    refine ⟨r, _, rfl, SqL.of hl, rfl, ?_⟩
    walk_at "hr"
    have e3 : S a b c d p = _ := if_pos h
    rw [← e3]
    exact q _ e
  · have e2 : lift a b c d p = _ := if_neg h
    rw [e2] at hl
    simp only [List.map_cons, List.map_nil] at hl
    refine ⟨r, _, rfl, SqL.of hl, rfl, ?_⟩
    walk_at "hr"
    have e3 : S a b c d p = _ := if_neg h
    rw [← e3]
    exact q _ e
def sp_need_four (K : PySem.W.Frag) : Sp := fun vs H Q _ => ∃ a b c d p : Int, vs = [.int a, .int b, .int c, .int d, .int p] ∧ Ok4 a b c d ∧ (-80 ≤ p ∧ p ≤ 80) ∧ ∀ H', Same H H' → Q .non H'
theorem ok_need_four (T : Tx P K mg) : FnOk P w K mg base CX0 5 T.f_need_four T.fd_need_four ["a", "b", "c", "d", "power"] (sp_need_four K) := by
  refine T.F_need_four.ok sc_need_four (fun vs H Q E h => ?_) (fun cdv A outer s H vs Q E hr h => ?_)
  · obtain ⟨a, b, c, d, p, rfl, o, hp, q⟩ := h; rfl
  obtain ⟨a, b, c, d, p, rfl, o, hp, q⟩ := h
  refine ⟨_, (pss_cons (ps_for PassesOwn.never (by rfl) (pi_tupK (K := K) (pe_tup (pa_cons (pe_tup (pa_cons (pv 0) (pa_cons pe_str pa_nil))) (pa_cons (pe_tup (pa_cons (pv 1) (pa_cons pe_str pa_nil))) (pa_cons (pe_tup (pa_cons (pv 2) (pa_cons pe_str pa_nil))) (pa_cons (pe_tup (pa_cons (pv 3) (pa_cons pe_str pa_nil))) pa_nil)))))) (pg_tupK (K := K) 2 (by rfl) (pgs_cons (pg_name (i := 5) sc_need_four.nd rfl (by first | exact .inl rfl | exact .inr rfl)) (pgs_cons (pg_name (i := 6) sc_need_four.nd rfl (by first | exact .inl rfl | exact .inr rfl)) pgs_nil))) (pss_one (ps_expr (pe_call (ok_need_number T) (hr.mono (by decide)) (by rfl) T.g_need_number T.F_need_number.kp T.b_need_number .nil pass0 (pa_cons (pv 5) (pa_cons (pv 6) (pa_cons pe_int (pa_cons (pe_glob (by rfl) T.c_MOST_NUMBER T.r_MOST_NUMBER) pa_nil))))))))
      (pss_one (ps_expr (pe_call (ok_need_power T) (hr.mono (by decide)) (by rfl) T.g_need_power T.F_need_power.kp T.b_need_power .nil pass0 (pa_cons (pv 4) pa_nil))))), ?_⟩
  refine HX.start_ (σ := [some (.int a : V), some (.int b : V), some (.int c : V), some (.int d : V), some (.int p : V), none, none]) rfl ?_
  obtain ⟨ha, hb, hc, hd⟩ := o
  walk_at "hr"
  intro t1 h1; walk_at "hr"; intro t2 h2; walk_at "hr"; intro t3 h3; walk_at "hr"; intro t4 h4; walk_at "hr"; intro t5 h5
  have n1 := HX.same_new (o := .tup [V.int a, .str "a"]) h1
  have n2 := HX.same_new (o := .tup [V.int b, .str "b"]) h2
  have n3 := HX.same_new (o := .tup [V.int c, .str "c"]) h3
  have n4 := HX.same_new (o := .tup [V.int d, .str "d"]) h4
  have n5 := HX.same_new (o := .tup [V.ref t1, .ref t2, .ref t3, .ref t4]) h5
  have g5 : _ = some (HO.tup [V.ref t1, .ref t2, .ref t3, .ref t4]) := (upd_same : (upd (upd (upd (upd (upd H t1 (.tup [V.int a, .str "a"])) t2 (.tup [V.int b, .str "b"])) t3 (.tup [V.int c, .str "c"])) t4 (.tup [V.int d, .str "d"])) t5 (.tup [V.ref t1, .ref t2, .ref t3, .ref t4])) t5 = _)
  have g4 := n5 t4 _ upd_same
  have g3 := n5 t3 _ (n4 t3 _ upd_same)
  have g2 := n5 t2 _ (n4 t2 _ (n3 t2 _ upd_same))
  have g1 := n5 t1 _ (n4 t1 _ (n3 t1 _ (n2 t1 _ upd_same)))
  have sm := (((n1.trans n2).trans n3).trans n4).trans n5
  refine ⟨t5, rfl, ⟨_, SqT.of upd_same⟩, ?_⟩
  refine HX.unrT (bk := fun _ _ => False) (ct := fun _ _ => False) (xs := [V.ref t1, .ref t2, .ref t3, .ref t4]) ?_
  refine ⟨SqT.of g5, t1, _, rfl, SqT.of g1, rfl, ?_⟩
  walk_at "hr"
  refine ⟨SqT.of g5, t2, _, rfl, SqT.of g2, rfl, ?_⟩
  walk_at "hr"
  refine ⟨SqT.of g5, t3, _, rfl, SqT.of g3, rfl, ?_⟩
  walk_at "hr"
  refine ⟨SqT.of g5, t4, _, rfl, SqT.of g4, rfl, ?_⟩
  walk_at "hr"
  refine ⟨SqT.of g5, ?_⟩
  walk_at "hr"
  exact q _ sm
def sgn (x : Int) : Int := (if decide (x > 0) then 1 else 0) - (if decide (x < 0) then 1 else 0)
def sp_sign_at (K : PySem.W.Frag) : Sp := fun vs H Q _ => ∃ a b c d p : Int, vs = [.int a, .int b, .int c, .int d, .int p] ∧ Ok4 a b c d ∧ (-80 ≤ p ∧ p ≤ 80) ∧ ∀ H', Same H H' → Q (.int (sgn (S a b c d p))) H'
theorem ok_sign_at (T : Tx P K mg) : FnOk P w K mg base CX0 6 T.f_sign_at T.fd_sign_at ["a", "b", "c", "d", "power"] (sp_sign_at K) := by
  refine T.F_sign_at.ok sc_sign_at (fun vs H Q E h => ?_) (fun cdv A outer s H vs Q E hr h => ?_)
  · obtain ⟨a, b, c, d, p, rfl, o, hp, q⟩ := h; rfl
  obtain ⟨a, b, c, d, p, rfl, o, hp, q⟩ := h
  refine ⟨_, (pss_cons (ps_expr (pe_call (ok_need_four T) (hr.mono (by decide)) (by rfl) T.g_need_four T.F_need_four.kp T.b_need_four .nil pass0 (pa_cons (pv 0) (pa_cons (pv 1) (pa_cons (pv 2) (pa_cons (pv 3) (pa_cons (pv 4) pa_nil)))))))
      (pss_cons (ps_set (i := 5) sc_sign_at.nd rfl (by first | exact .inl rfl | exact .inr rfl) (pe_call (ok_sum_at T) (hr.mono (by decide)) (by rfl) T.g_sum_at T.F_sum_at.kp T.b_sum_at .nil pass0 (pa_cons (pv 0) (pa_cons (pv 1) (pa_cons (pv 2) (pa_cons (pv 3) (pa_cons (pv 4) pa_nil)))))))
      (pss_one (ps_ret (pe_op op_sub (pe_callTy call_intU (by rfl) T.z_int (by decide +kernel) (pa_cons (pe_cmpR op_gt (pv 5) pe_int (nomark _)) pa_nil)) (pe_callTy call_intU (by rfl) T.z_int (by decide +kernel) (pa_cons (pe_cmpR op_lt (pv 5) pe_int (nomark _)) pa_nil))))))), ?_⟩
  refine HX.start_ (σ := [some (.int a : V), some (.int b : V), some (.int c : V), some (.int d : V), some (.int p : V), none]) rfl ?_
  walk_at "hr"
  refine ⟨a, b, c, d, p, rfl, o, hp, fun H' e => ?_⟩
  walk_at "hr"
  refine ⟨a, b, c, d, p, rfl, o, hp, fun H2 e2 => ?_⟩
  walk_at "hr"
  exact q _ (e.trans e2)
/-- what holds_by tells -/
def By (a b c d p : Int) : Bool := if p = 0 then decide (a * d = b * c) else decide (S a b c d p = 0)
def sp_holds_by (K : PySem.W.Frag) : Sp := fun vs H Q _ => ∃ a b c d p : Int, vs = [.int a, .int b, .int c, .int d, .int p] ∧ Ok4 a b c d ∧ (-80 ≤ p ∧ p ≤ 80) ∧ ∀ H', Same H H' → Q (.bl (By a b c d p)) H'
theorem ok_holds_by (T : Tx P K mg) : FnOk P w K mg base CX0 4 T.f_holds_by T.fd_holds_by ["a", "b", "c", "d", "power"] (sp_holds_by K) := by
  refine T.F_holds_by.ok sc_holds_by (fun vs H Q E h => ?_) (fun cdv A outer s H vs Q E hr h => ?_)
  · obtain ⟨a, b, c, d, p, rfl, o, hp, q⟩ := h; rfl
  obtain ⟨a, b, c, d, p, rfl, o, hp, q⟩ := h
  refine ⟨_, (pss_one (ps_ret (pe_ifExp (pt_cmpR (op_eqK (K := K) hr.units) (pv 4) pe_int (nomark _)) (pe_cmpR (op_eqK (K := K) hr.units) (pe_op op_mulU (pv 0) (pv 3)) (pe_op op_mulU (pv 1) (pv 2)) (nomark _)) (pe_cmpR (op_eqK (K := K) hr.units) (pe_call (ok_sum_at T) (hr.mono (by decide)) (by rfl) T.g_sum_at T.F_sum_at.kp T.b_sum_at .nil pass0 (pa_cons (pv 0) (pa_cons (pv 1) (pa_cons (pv 2) (pa_cons (pv 3) (pa_cons (pv 4) pa_nil)))))) pe_int (nomark _))))), ?_⟩
  refine HX.start_ (σ := [some (.int a : V), some (.int b : V), some (.int c : V), some (.int d : V), some (.int p : V)]) rfl ?_
  walk_at "hr"
  obtain ⟨ha, hb, hc, hd⟩ := id o
  refine HX.ited_ (fun h => ?_) (fun h => ?_)
  · walk_at "hr"
    have e : By a b c d p = decide (a * d = b * c) := if_pos h
    rw [← e]
    exact q _ (Same.refl _)
  · walk_at "hr"
    refine ⟨a, b, c, d, p, rfl, o, hp, fun H' e => ?_⟩
    walk_at "hr"
    have e2 : By a b c d p = decide (S a b c d p = 0) := if_neg h
    rw [← e2]
    exact q _ e
def sp_is_by (K : PySem.W.Frag) : Sp := fun vs H Q _ => ∃ a b c d p : Int, vs = [.int a, .int b, .int c, .int d, .int p] ∧ Ok4 a b c d ∧ (-80 ≤ p ∧ p ≤ 80) ∧ ∀ H', Same H H' → Q (.bl (By a b c d p)) H'
theorem ok_is_by (T : Tx P K mg) : FnOk P w K mg base CX0 6 T.f_is_by T.fd_is_by ["a", "b", "c", "d", "power"] (sp_is_by K) := by
  refine T.F_is_by.ok sc_is_by (fun vs H Q E h => ?_) (fun cdv A outer s H vs Q E hr h => ?_)
  · obtain ⟨a, b, c, d, p, rfl, o, hp, q⟩ := h; rfl
  obtain ⟨a, b, c, d, p, rfl, o, hp, q⟩ := h
  refine ⟨_, (pss_cons (ps_expr (pe_call (ok_need_four T) (hr.mono (by decide)) (by rfl) T.g_need_four T.F_need_four.kp T.b_need_four .nil pass0 (pa_cons (pv 0) (pa_cons (pv 1) (pa_cons (pv 2) (pa_cons (pv 3) (pa_cons (pv 4) pa_nil)))))))
      (pss_one (ps_ret (pe_call (ok_holds_by T) (hr.mono (by decide)) (by rfl) T.g_holds_by T.F_holds_by.kp T.b_holds_by .nil pass0 (pa_cons (pv 0) (pa_cons (pv 1) (pa_cons (pv 2) (pa_cons (pv 3) (pa_cons (pv 4) pa_nil))))))))), ?_⟩
  refine HX.start_ (σ := [some (.int a : V), some (.int b : V), some (.int c : V), some (.int d : V), some (.int p : V)]) rfl ?_
  walk_at "hr"
  refine ⟨a, b, c, d, p, rfl, o, hp, fun H' e => ?_⟩
  walk_at "hr"
  refine ⟨a, b, c, d, p, rfl, o, hp, fun H2 e2 => ?_⟩
  walk_at "hr"
  exact q _ (e.trans e2)
def sp__law_hat (K : PySem.W.Frag) : Sp := fun vs H Q _ => ∃ (a : Addr) (ns : List Int), vs = [.ref a] ∧ SqL K H a (ns.map V.int) ∧ ns.length ≤ 63 ∧ ∀ p c ms H', Same H H' → H p = none → Hat H' p c ms 0 → Q (.ref p) H'
theorem ok__law_hat (T : Tx P K mg) : FnOk P w K mg base CX0 1 T.f__law_hat T.fd__law_hat ["script"] (sp__law_hat K) := by
  refine T.F__law_hat.ok sc__law_hat (fun vs H Q E h => ?_) (fun cdv A outer s H vs Q E hr h => ?_)
  · obtain ⟨a, ns, rfl, hS, hl, q⟩ := h; rfl
  obtain ⟨a, ns, rfl, hS, hl, q⟩ := h
  refine ⟨_, (pss_one (ps_ret (pe_lst (pa_cons (pe_lc (own := [("cell", 1)]) (g := gName 1) (tt := tYes) (by rfl) sc__law_hat.nd (pi_listK (K := K) (pe_slice (sl_K (K := K)) (pv 0) po_none (po_some pe_int))) (blkOk_by (own := [("cell", 1)]) (N := n__law_hat) (sc := defScope s__law_hat) (by decide +kernel)) (fun _ _ _ _ _ => (pg_name (i := 1) sc__law_hat.nd rfl (by first | exact .inl rfl | exact .inr rfl))) (fun _ _ _ _ _ => pts_nil) (fun _ _ _ _ _ => (pe_callTy call_intU (by rfl) T.z_int (by decide +kernel) (pa_cons (pv 1) pa_nil)))) (pa_cons pe_int (pa_cons pe_int pa_nil)))))), ?_⟩
  refine HX.start_ (σ := [some (.ref a : V), none]) rfl ?_
  walk_at "hr"
  refine HX.slL_ hS ?_
  intro p hp
  rw [show ((60 : Int)) = ((60 : Nat) : Int) from rfl, HX.cut_to, ← List.map_take]
  refine ⟨p, rfl, ⟨_, SqL.of upd_same⟩, ?_⟩
  intro D hD
  refine HX.lcLp (xs := (ns.take 60).map V.int) id (SqL.of upd_same) hD (Nat.ble_eq_true_of_le ?_) (fun _ => rfl) (fun i x H' R hx e k => ?_) (fun H' e hL => ?_)
  · rw [List.length_map, List.length_take]; omega
  · obtain ⟨z, rfl⟩ : ∃ z, x = .int z := by
      rw [List.getElem?_map] at hx
      cases e : (ns.take 60)[i]? with
      | none => rw [e] at hx; cases hx
      | some z => rw [e] at hx; exact ⟨z, (Option.some.inj hx).symm⟩
    walk_at "hw"
    walk_at "hr"
    exact k _ (Same.refl _)
  · walk_at "hr"
    intro u hu
    rw [List.map_id] at hL
    have s1 : Same H H' := (HX.same_new hp).trans e
    refine q u D (ns.take 60) _ (s1.trans (HX.same_new hu)) (s1.free hu) ⟨⟨0, 0, upd_same, by omega, by omega⟩, ne_of_none hL hu, ?_, ?_⟩
    · rw [upd_ne (ne_of_none hL hu)]; exact hL
    · rw [List.length_take]; omega
def sp__law_lot (K : PySem.W.Frag) : Sp := fun vs H Q _ => ∃ (a : Addr) (m : Int) (c : Addr) (ns : List Int) (n : Nat), vs = [.ref a, .int m] ∧ Hat H a c ns n ∧ n ≤ 100000 ∧ 0 < m ∧ m < 1073741824 ∧ ∀ d H', 0 ≤ d → d < m → Kept a H H' → Hat H' a c ns (n + 1) → Q (.int d) H'
theorem ok__law_lot (T : Tx P K mg) : FnOk P w K mg base CX0 1 T.f__law_lot T.fd__law_lot ["hat", "many"] (sp__law_lot K) := by
  refine T.F__law_lot.ok sc__law_lot (fun vs H Q E h => ?_) (fun cdv A outer s H vs Q E hr h => ?_)
  · obtain ⟨a, m, c, ns, n, rfl, hh, hn, hm, hm2, q⟩ := h; rfl
  obtain ⟨a, m, c, ns, n, rfl, hh, hn, hm, hm2, q⟩ := h
  refine ⟨_, (pss_cons (ps_if (pt_cmpR op_gt (pe_ix (ix_K (K := K)) (pv 0) pe_int (fun _ _ => rfl)) pe_int (nomark _)) (pss_cons (ps_set (i := 2) sc__law_lot.nd rfl (by first | exact .inl rfl | exact .inr rfl) (pe_op op_modU (pe_callTy call_intU (by rfl) T.z_int (by decide +kernel) (pa_cons (pe_ix (ix_K (K := K)) (pv 0) pe_int (fun _ _ => rfl)) pa_nil)) (pv 1)))
      (pss_cons (ps_asg (pe_op op_fdivU (pe_callTy call_intU (by rfl) T.z_int (by decide +kernel) (pa_cons (pe_ix (ix_K (K := K)) (pv 0) pe_int (fun _ _ => rfl)) pa_nil)) (pv 1)) (pg_sub (pv 0) pe_int set_list))
      (pss_one (ps_ret (pv 2))))) pss_nil)
      (pss_cons (ps_set (i := 3) sc__law_lot.nd rfl (by first | exact .inl rfl | exact .inr rfl) (pe_ix (ix_K (K := K)) (pv 0) pe_int (fun _ _ => rfl)))
      (pss_cons (ps_asg (pe_op (op_addK (K := K)) (pv 3) pe_int) (pg_sub (pv 0) pe_int set_list))
      (pss_cons (ps_set (i := 4) sc__law_lot.nd rfl (by first | exact .inl rfl | exact .inr rfl) (pe_op (op_addK (K := K)) (pe_op op_mulU pe_int (pv 3)) pe_int))
      (Evl.pss_cut (ps_if (pt_cmpR (op_neK (K := K) hr.units) (pe_ix (ix_K (K := K)) (pv 0) pe_int (fun _ _ => rfl)) (pe_lst pa_nil) (nomark _)) (pss_one (ps_set (i := 4) sc__law_lot.nd rfl (by first | exact .inl rfl | exact .inr rfl) (pe_ix (ix_K (K := K)) (pe_ix (ix_K (K := K)) (pv 0) pe_int (fun _ _ => rfl)) (pe_op op_modU (pe_callTy call_intU (by rfl) T.z_int (by decide +kernel) (pa_cons (pv 3) pa_nil)) (pe_callB (call_lenK (K := K)) (by rfl) T.z_len (by decide +kernel) (pa_cons (pe_ix (ix_K (K := K)) (pv 0) pe_int (fun _ _ => rfl)) pa_nil))) (fun _ _ => rfl)))) pss_nil)
      (Evl.pss_cut (ps_if (PW.pt (pw_and (pt_cmpR op_lt (pv 3) (pe_callB (call_lenK (K := K)) (by rfl) T.z_len (by decide +kernel) (pa_cons (pe_ix (ix_K (K := K)) (pv 0) pe_int (fun _ _ => rfl)) pa_nil)) (nomark _)) (pw_and1 (pt_cmpR op_ge (pe_callB call_absU (by rfl) T.z_abs (by decide +kernel) (pa_cons (pv 4) pa_nil)) (pe_op op_pow pe_int pe_int) (nomark _))))) (pss_cons (ps_set (i := 5) sc__law_lot.nd rfl (by first | exact .inl rfl | exact .inr rfl) (pe_op (op_addK (K := K)) (pe_op op_mulU pe_int (pe_op op_sub (pe_callB call_absU (by rfl) T.z_abs (by decide +kernel) (pa_cons (pv 4) pa_nil)) (pe_op op_pow pe_int pe_int))) (pe_callTy call_intU (by rfl) T.z_int (by decide +kernel) (pa_cons (pe_cmpR op_lt (pv 4) pe_int (nomark _)) pa_nil))))
      (pss_cons (ps_asg (pe_op op_fdivU (pe_callTy call_intU (by rfl) T.z_int (by decide +kernel) (pa_cons (pv 5) pa_nil)) (pv 1)) (pg_sub (pv 0) pe_int set_list))
      (pss_one (ps_ret (pe_op op_modU (pe_callTy call_intU (by rfl) T.z_int (by decide +kernel) (pa_cons (pv 5) pa_nil)) (pv 1)))))) pss_nil)
      (pss_cons (ps_set (i := 6) sc__law_lot.nd rfl (by first | exact .inl rfl | exact .inr rfl) (pe_op op_modU (pe_callTy call_intU (by rfl) T.z_int (by decide +kernel) (pa_cons (pe_op op_pow (pe_op (op_addK (K := K)) (pe_op (op_addK (K := K)) (pe_op op_modU (pe_callTy call_intU (by rfl) T.z_int (by decide +kernel) (pa_cons (pv 4) pa_nil)) pe_int) (pe_op op_mulU pe_int (pv 3))) pe_int) pe_int) pa_nil)) pe_int))
      (pss_cons (ps_set (i := 6) sc__law_lot.nd rfl (by first | exact .inl rfl | exact .inr rfl) (pe_op op_modU (pe_callTy call_intU (by rfl) T.z_int (by decide +kernel) (pa_cons (pe_op op_pow (pe_op (op_addK (K := K)) (pe_op (op_addK (K := K)) (pe_op op_mulU (pv 6) (pe_op (op_addK (K := K)) (pe_op op_mulU pe_int (pv 3)) pe_int)) (pe_op op_mulU (pe_op op_mulU pe_int (pv 3)) (pv 3))) pe_int) pe_int) pa_nil)) pe_int))
      (pss_one (ps_ret (pe_op op_modU (pe_callTy call_intU (by rfl) T.z_int (by decide +kernel) (pa_cons (pe_op op_fdivU (pv 6) pe_int) pa_nil)) (pv 1)))))))))))), ?_⟩
  refine HX.start_ (σ := [some (.ref a : V), some (.int m : V), none, none, none, none, none]) rfl ?_
  obtain ⟨⟨t, r, hA, ht0, ht1⟩, hca, hC, hle⟩ := id hh
  walk_at "hr"
  refine HX.ixL_ (SqL.of hA) rfl ?_
  walk_at "hr"
  refine HX.ited_ (fun h => ?_) (fun h => ?_)
  · walk_at "hr"
    refine HX.ixL_ (SqL.of hA) rfl ?_
    walk_at "hr"
    intro d _ hd0 hd1
    walk_at "hr"
    refine HX.ixL_ (SqL.of hA) rfl ?_
    walk_at "hr"
    refine HX.setL_ hA rfl ?_
    walk_at "hr"
    exact q d _ hd0 hd1 (kept_upd (Kept.refl _ _)) ⟨⟨_, _, upd_same, ht0, by omega⟩, hca, by rw [upd_ne hca]; exact hC, hle⟩
  · walk_at "hr"
    refine HX.ixL_ (SqL.of hA) rfl ?_
    walk_at "hr"
    refine HX.setL_ (j := 1) hA rfl ?_
    walk_at "hr"
    rw [show [V.ref c, V.int t, V.int r].set 1 (V.int (t + 1)) = [V.ref c, V.int (t + 1), V.int r] from rfl]
    have hA2 : (upd H a (.lst [V.ref c, V.int (t + 1), V.int r])) a = some (.lst [V.ref c, V.int (t + 1), V.int r]) := upd_same
    have hC2 : (upd H a (.lst [V.ref c, V.int (t + 1), V.int r])) c = some (.lst (ns.map V.int)) := by rw [upd_ne hca]; exact hC
    have hk2 : Kept a H (upd H a (.lst [V.ref c, V.int (t + 1), V.int r])) := kept_upd (Kept.refl _ _)
    generalize (upd H a (.lst [V.ref c, V.int (t + 1), V.int r])) = G at hA2 hC2 hk2 ⊢
    refine HX.cut_ (fun σ' H' => ∃ cell : Int, σ' = [some (V.ref a), some (V.int m), none, some (V.int t), some (V.int cell), none, none] ∧ Kept a H H' ∧ H' a = some (.lst [V.ref c, V.int (t + 1), V.int r]) ∧ H' c = some (.lst (ns.map V.int))) ?_ ?_
    · walk_at "hr"
      refine HX.ixL_ (SqL.of hA2) rfl ?_
      walk_at "hr"
      intro e he
      refine HX.ne_nil_ (SqL.of (by rw [upd_ne (ne_of_none hC2 he)]; exact hC2)) (SqL.of upd_same) ?_
      walk_at "hr"
      have hA3 : (upd G e (.lst [])) a = some (.lst [V.ref c, V.int (t + 1), V.int r]) := by rw [upd_ne (ne_of_none hA2 he)]; exact hA2
      have hC3 : (upd G e (.lst [])) c = some (.lst (ns.map V.int)) := by rw [upd_ne (ne_of_none hC2 he)]; exact hC2
      have hk3 : Kept a H (upd G e (.lst [])) := kept_new hk2 he
      generalize (upd G e (.lst [])) = G3 at hA3 hC3 hk3 ⊢
      cases hns : ns with
      | nil =>
        refine HX.iteF_ rfl ?_
        walk_at "hr"
        exact ⟨_, rfl, hk3, hA3, by rw [← hns]; exact hC3⟩
      | cons x xs =>
        refine HX.iteT_ rfl ?_
        rw [hns] at hC3
        walk_at "hr"
        refine HX.ixL_ (SqL.of hA3) rfl ?_
        walk_at "hr"
        refine HX.ixL_ (SqL.of hA3) rfl ?_
        walk_at "hr"
        refine HX.len_l_ (SqL.of hC3) ?_
        rw [List.length_map]
        refine HX.mod_ (by rw [List.length_cons]; omega) fun z _ hz0 hz1 => ?_
        obtain ⟨v, hv⟩ := HX.at_int hz0 hz1
        refine HX.ixL_ (SqL.of hC3) hv ?_
        walk_at "hr"
        exact ⟨_, rfl, hk3, hA3, hC3⟩
    · rintro σ' H' ⟨cell, rfl, hk, hA', hC'⟩
      have hat' : ∀ H2 r2, Kept a H' H2 → H2 a = some (.lst [V.ref c, V.int (t + 1), V.int r2]) → Hat H2 a c ns (n + 1) := fun H2 r2 k2 e2 => ⟨⟨t + 1, r2, e2, by omega, by omega⟩, hca, k2 _ _ hca hC', hle⟩
      refine HX.cut_ (fun σ2 H2 => σ2 = [some (V.ref a), some (V.int m), none, some (V.int t), some (V.int cell), none, none] ∧ H2 = H') ?_ ?_
      · walk_at "hr"
        refine HX.ixL_ (SqL.of hA') rfl ?_
        walk_at "hr"
        refine HX.len_l_ (SqL.of hC') ?_
        walk_at "hr"
        refine HX.ited_ (fun h1 => ?_) (fun h1 => ?_)
        · walk_at "hr"
          refine HX.ited_ (fun h2 => ?_) (fun h2 => ?_)
          · walk_at "hr"
            refine HX.setL_ (j := 2) hA' rfl ?_
            walk_at "hr"
            intro d _ hd0 hd1
            exact q d _ hd0 hd1 (kept_upd hk) (hat' _ _ (kept_upd (Kept.refl _ _)) upd_same)
          · walk_at "hr"
            exact ⟨rfl, rfl⟩
        · walk_at "hr"
          exact ⟨rfl, rfl⟩
      · rintro σ2 H2 ⟨rfl, rfl⟩
        walk_at "hr"
        intro z _ hz0 hz1
        walk_at "hr"
        intro y _ hy0 hy1
        walk_at "hr"
        have b1 := prod2_bd (x := y) (y := 2 * t + 1987) (m := 2147483647) (n := 300000) (by omega) (by omega)
        have b2 := prod2_bd (x := 70001 * t) (y := t) (m := 70001 * 100000) (n := 100000) (by omega) (by omega)
        walk_at "hr"
        intro x _ hx0 hx1
        walk_at "hr"
        intro d _ hd0 hd1
        exact q d _ hd0 hd1 hk (hat' _ _ (Kept.refl _ _) hA')
theorem use_lot {a c : Addr} {m : Int} {ns : List Int} {n : Nat} {H : Hp} {Q : VK} {E : XK} (hh : Hat H a c ns n) (hn : n ≤ 100000) (hm : 0 < m ∧ m < 1073741824) (k : ∀ d H', 0 ≤ d → d < m → Kept a H H' → Hat H' a c ns (n + 1) → Q (.int d) H') : sp__law_lot K ([.ref a, .int m] ++ []) H Q E := ⟨a, m, c, ns, n, rfl, hh, hn, hm.1, hm.2, k⟩
local macro_rules | `(tactic| walk_at "hu") => `(tactic| ((with_reducible refine' use_lot ?h ?n ?m ?_); (case h => assumption); (case n => omega); (case m => constructor <;> omega)))
def sp__law_one (K : PySem.W.Frag) : Sp := fun vs H Q _ => ∃ (a l c : Addr) (ns : List Int) (n : Nat) (xs : List V), vs = [.ref a, .ref l] ∧ Hat H a c ns n ∧ n ≤ 100000 ∧ SqL K H l xs ∧ l ≠ a ∧ (0 < xs.length ∧ xs.length ≤ 1000) ∧ ∀ v H', v ∈ xs → Kept a H H' → Hat H' a c ns (n + 1) → Q v H'
theorem ok__law_one (T : Tx P K mg) : FnOk P w K mg base CX0 2 T.f__law_one T.fd__law_one ["hat", "some"] (sp__law_one K) := by
  refine T.F__law_one.ok sc__law_one (fun vs H Q E h => ?_) (fun cdv A outer s H vs Q E hr h => ?_)
  · obtain ⟨a, l, c, ns, n, xs, rfl, hh, hn, hS, hla, hx, q⟩ := h; rfl
  obtain ⟨a, l, c, ns, n, xs, rfl, hh, hn, hS, hla, hx, q⟩ := h
  refine ⟨_, (pss_one (ps_ret (pe_ix (ix_K (K := K)) (pv 1) (pe_call (ok__law_lot T) (hr.mono (by decide)) (by rfl) T.g__law_lot T.F__law_lot.kp T.b__law_lot .nil pass0 (pa_cons (pv 0) (pa_cons (pe_callB (call_lenK (K := K)) (by rfl) T.z_len (by decide +kernel) (pa_cons (pv 1) pa_nil)) pa_nil))) (fun _ _ => rfl)))), ?_⟩
  refine HX.start_ (σ := [some (.ref a : V), some (.ref l : V)]) rfl ?_
  walk_at "hr"
  refine HX.len_l_ hS ?_
  walk_at "hr"
  intro d H' hd0 hd1 k1 h1
  obtain ⟨v, hv, hm⟩ := HX.at_some hd0 hd1
  refine HX.ixL_ (kept_sql k1 hla hS) hv ?_
  exact q v H' hm k1 h1
theorem use_one {a l c : Addr} {ns : List Int} {n : Nat} {xs : List V} {H : Hp} {Q : VK} {E : XK} (hh : Hat H a c ns n) (hn : n ≤ 100000) (hS : SqL K H l xs) (hla : l ≠ a) (hx : 0 < xs.length ∧ xs.length ≤ 1000) (q : ∀ v H', v ∈ xs → Kept a H H' → Hat H' a c ns (n + 1) → Q v H') : sp__law_one K ([.ref a, .ref l] ++ []) H Q E := ⟨a, l, c, ns, n, xs, rfl, hh, hn, hS, hla, hx, q⟩
def sp__law_raised (K : PySem.W.Frag) : Sp := fun vs H Q _ => ∃ n k : Int, vs = [.int n, .int k] ∧ (0 ≤ k ∧ k ≤ 80) ∧ (-(2 ^ 64) < n ∧ n < 2 ^ 64) ∧ Q (.int (n ^ k.toNat)) H
theorem use__law_raised {n k : Int} {H : Hp} {Q : VK} {E : XK} (h : 0 ≤ k ∧ k ≤ 80) (hn : -(2 ^ 64) < n ∧ n < 2 ^ 64) (q : Q (.int (n ^ k.toNat)) H) : sp__law_raised K ([.int n, .int k] ++ []) H Q E := ⟨n, k, rfl, h, hn, q⟩
theorem ok__law_raised (T : Tx P K mg) : FnOk P w K mg base CX0 1 T.f__law_raised T.fd__law_raised ["number", "many"] (sp__law_raised K) := by
  refine T.F__law_raised.ok sc__law_raised (fun vs H Q E h => ?_) (fun cdv A outer s H vs Q E hr h => ?_)
  · obtain ⟨n, k, rfl, hk, hn, q⟩ := h; rfl
  obtain ⟨n, k, rfl, hk, hn, q⟩ := h
  refine ⟨_, (pss_cons (ps_set (i := 2) sc__law_raised.nd rfl (by first | exact .inl rfl | exact .inr rfl) pe_int)
      (pss_cons (ps_for PassesOwn.never (by rfl) (pi_range1 (by rfl) T.z_range (pa_cons (pv 1) pa_nil)) (pg_name (i := 3) sc__law_raised.nd rfl (by first | exact .inl rfl | exact .inr rfl)) (pss_one (ps_set (i := 2) sc__law_raised.nd rfl (by first | exact .inl rfl | exact .inr rfl) (pe_op op_mulU (pv 2) (pv 0)))))
      (pss_one (ps_ret (pv 2))))), ?_⟩
  refine HX.start_ (σ := [some (.int n : V), some (.int k : V), none, none]) rfl ?_
  walk_at "hr"
  refine ⟨by omega, by omega, ?_⟩
  refine for_range (lo := 0) (n := k.toNat) (fun i σ H' => H' = H ∧ ∃ y, σ = [some (.int n), some (.int k), some (.int (n ^ i)), y]) ⟨rfl, none, by rw [Int.pow_zero]⟩ ?_ ?_
  · rintro i σ H' hi ⟨rfl, y, rfl⟩
    walk_at "hr"
    exact ⟨rfl, _, by rw [Int.pow_succ]⟩
  · rintro σ H' ⟨rfl, y, rfl⟩
    walk_at "hr"
    exact q
local macro_rules | `(tactic| walk_at "hu") => `(tactic| ((with_reducible refine use__law_raised ?c ?d ?_); (case c => constructor <;> omega); (case d => first | assumption | (constructor <;> omega))))
theorem use_sum_at {a b c d p : Int} {H : Hp} {Q : VK} {E : XK} (o : Ok4 a b c d) (hp : -80 ≤ p ∧ p ≤ 80) (q : ∀ H', Same H H' → Q (.int (S a b c d p)) H') : sp_sum_at K ([.int a, .int b, .int c, .int d, .int p] ++ []) H Q E := ⟨a, b, c, d, p, rfl, o, hp, q⟩
local macro_rules | `(tactic| walk_at "hu") => `(tactic| ((with_reducible refine' use_sum_at ?o ?p ?_); (case o => assumption); (case p => first | assumption | (constructor <;> omega))))
structure Grow (a b c d : Int) : Prop where
  g1 : 1 ≤ a
  g2 : a < b
  g3 : b ≤ c
  g4 : c < d
  g5 : d ≤ 99
theorem Grow.ok4 {a b c d : Int} (g : Grow a b c d) : Ok4 a b c d := by
  obtain ⟨h1, h2, h3, h4, h5⟩ := g
  exact ⟨by omega, by omega, by omega, by omega⟩
def sp_need_growing (K : PySem.W.Frag) : Sp := fun vs H Q _ => ∃ a b c d : Int, vs = [.int a, .int b, .int c, .int d] ∧ Grow a b c d ∧ Q .non H
theorem ok_need_growing (T : Tx P K mg) : FnOk P w K mg base CX0 4 T.f_need_growing T.fd_need_growing ["a", "b", "c", "d"] (sp_need_growing K) := by
  refine T.F_need_growing.ok sc_need_growing (fun vs H Q E h => ?_) (fun cdv A outer s H vs Q E hr h => ?_)
  · obtain ⟨a, b, c, d, rfl, g, q⟩ := h; rfl
  obtain ⟨a, b, c, d, rfl, g, q⟩ := h
  refine ⟨_, (pss_cons (ps_expr (pe_call (ok_need_number T) (hr.mono (by decide)) (by rfl) T.g_need_number T.F_need_number.kp T.b_need_number .nil pass0 (pa_cons (pv 0) (pa_cons pe_str (pa_cons pe_int (pa_cons (pe_glob (by rfl) T.c_MOST_TOLD T.r_MOST_TOLD) pa_nil))))))
      (pss_cons (ps_expr (pe_call (ok_need_number T) (hr.mono (by decide)) (by rfl) T.g_need_number T.F_need_number.kp T.b_need_number .nil pass0 (pa_cons (pv 1) (pa_cons pe_str (pa_cons (pe_op (op_addK (K := K)) (pv 0) pe_int) (pa_cons (pe_glob (by rfl) T.c_MOST_TOLD T.r_MOST_TOLD) pa_nil))))))
      (pss_cons (ps_expr (pe_call (ok_need_number T) (hr.mono (by decide)) (by rfl) T.g_need_number T.F_need_number.kp T.b_need_number .nil pass0 (pa_cons (pv 2) (pa_cons pe_str (pa_cons (pv 1) (pa_cons (pe_glob (by rfl) T.c_MOST_TOLD T.r_MOST_TOLD) pa_nil))))))
      (pss_one (ps_expr (pe_call (ok_need_number T) (hr.mono (by decide)) (by rfl) T.g_need_number T.F_need_number.kp T.b_need_number .nil pass0 (pa_cons (pv 3) (pa_cons pe_str (pa_cons (pe_op (op_addK (K := K)) (pv 2) pe_int) (pa_cons (pe_glob (by rfl) T.c_MOST_TOLD T.r_MOST_TOLD) pa_nil)))))))))), ?_⟩
  refine HX.start_ (σ := [some (.int a : V), some (.int b : V), some (.int c : V), some (.int d : V)]) rfl ?_
  obtain ⟨h1, h2, h3, h4, h5⟩ := id g
  walk_at "hr"
  exact q
theorem use_need_growing {a b c d : Int} {H : Hp} {Q : VK} {E : XK} (g : Grow a b c d) (q : Q .non H) : sp_need_growing K ([.int a, .int b, .int c, .int d] ++ []) H Q E := ⟨a, b, c, d, rfl, g, q⟩
local macro_rules | `(tactic| walk_at "hu") => `(tactic| ((with_reducible refine' use_need_growing ?g ?_); (case g => assumption)))
/-- the halving walk -/
def bs (neg : Int → Bool) : Nat → Int → Int → Int
  | 0, _, high => high
  | n + 1, low, high => if high - low > 1 then (if neg ((low + high) / 2) then bs neg n ((low + high) / 2) high else bs neg n low ((low + high) / 2)) else high
theorem bs_bd {neg : Int → Bool} : ∀ {n : Nat} {low high : Int}, low < high → low < bs neg n low high ∧ bs neg n low high ≤ high
  | 0, low, high, h => ⟨h, Int.le_refl _⟩
  | n + 1, low, high, h => by
    rw [bs]
    split
    · split
      · have := bs_bd (neg := neg) (n := n) (low := (low + high) / 2) (high := high) (by omega)
        omega
      · have := bs_bd (neg := neg) (n := n) (low := low) (high := (low + high) / 2) (by omega)
        omega
    · omega
theorem bs_end {neg : Int → Bool} {n : Nat} {low high : Int} (h : ¬ high - low > 1) : bs neg n low high = high := by
  cases n with
  | zero => rfl
  | succ n => rw [bs, if_neg h]
def lst (a b c d side : Int) : Int := bs (fun m => decide (S a b c d (side * m) < 0)) 7 0 80
def sp_least_step (K : PySem.W.Frag) : Sp := fun vs H Q _ => ∃ a b c d e : Int, vs = [.int a, .int b, .int c, .int d, .int e] ∧ Grow a b c d ∧ (e = 1 ∨ e = -1) ∧ ∀ H', Same H H' → Q (.int (lst a b c d e)) H'
theorem ok_least_step (T : Tx P K mg) : FnOk P w K mg base CX0 4 T.f_least_step T.fd_least_step ["a", "b", "c", "d", "side"] (sp_least_step K) := by
  refine T.F_least_step.ok sc_least_step (fun vs H Q E h => ?_) (fun cdv A outer s H vs Q E hr h => ?_)
  · obtain ⟨a, b, c, d, e, rfl, g, he, q⟩ := h; rfl
  obtain ⟨a, b, c, d, e, rfl, g, he, q⟩ := h
  refine ⟨_, (pss_cons (ps_par (i := 5) (j := 6) (by rfl) sc_least_step.nd rfl rfl (by decide) rfl rfl (pa_cons pe_int (pa_cons (pe_glob (by rfl) T.c_MOST_POWER T.r_MOST_POWER) pa_nil)) (by rfl))
      (pss_cons (ps_while PassesOwn.never (pt_cmpR op_gt (pe_op op_sub (pv 6) (pv 5)) pe_int (nomark _)) (pss_cons (ps_set (i := 7) sc_least_step.nd rfl (by first | exact .inl rfl | exact .inr rfl) (pe_op op_fdivU (pe_op (op_addK (K := K)) (pv 5) (pv 6)) pe_int))
      (pss_one (ps_if (pt_cmpR op_lt (pe_call (ok_sum_at T) (hr.mono (by decide)) (by rfl) T.g_sum_at T.F_sum_at.kp T.b_sum_at .nil pass0 (pa_cons (pv 0) (pa_cons (pv 1) (pa_cons (pv 2) (pa_cons (pv 3) (pa_cons (pe_op op_mulU (pv 4) (pv 7)) pa_nil)))))) pe_int (nomark _)) (pss_one (ps_set (i := 5) sc_least_step.nd rfl (by first | exact .inl rfl | exact .inr rfl) (pv 7))) (pss_one (ps_set (i := 6) sc_least_step.nd rfl (by first | exact .inl rfl | exact .inr rfl) (pv 7)))))))
      (pss_one (ps_ret (pv 6))))), ?_⟩
  refine HX.start_ (σ := [some (.int a : V), some (.int b : V), some (.int c : V), some (.int d : V), some (.int e : V), none, none, none]) rfl ?_
  walk_at "hr"
  refine ⟨fun m σ H' => Same H H' ∧ ∃ low high y, σ = [some (V.int a), some (V.int b), some (V.int c), some (V.int d), some (V.int e), some (V.int low), some (V.int high), y] ∧ (0 ≤ low ∧ low < high ∧ high ≤ 80 ∧ high - low ≤ 2 ^ m) ∧ bs (fun m => decide (S a b c d (e * m) < 0)) m low high = lst a b c d e, ⟨7, Same.refl _, 0, 80, none, rfl, ⟨by omega, by omega, by omega, by omega⟩, rfl⟩, ?_⟩
  rintro m σ H1 ⟨e1, low, high, y, rfl, hb, hbs⟩
  have o := g.ok4
  walk_at "hr"
  refine HX.ited_ (fun h => ?_) (fun h => ?_)
  · cases m with
    | zero => exact absurd hb.2.2.2 (by omega)
    | succ m =>
    have hp : (2 : Int) ^ (m + 1) = 2 * 2 ^ m := by rw [Int.pow_succ]; omega
    rw [hp] at hb
    refine ⟨fun σ H' => Same H H' ∧ ∃ low high y, σ = [some (V.int a), some (V.int b), some (V.int c), some (V.int d), some (V.int e), some (V.int low), some (V.int high), y] ∧ (0 ≤ low ∧ low < high ∧ high ≤ 80 ∧ high - low ≤ 2 ^ m) ∧ bs (fun m => decide (S a b c d (e * m) < 0)) m low high = lst a b c d e, fun σ' H' z => ⟨m, Nat.lt_succ_self m, z⟩, ?_⟩
    rw [bs, if_pos (by omega)] at hbs
    have hr' : -80 ≤ e * ((low + high) / 2) ∧ e * ((low + high) / 2) ≤ 80 := by rcases he with rfl | rfl <;> omega
    walk_at "hr"
    intro H2 e2
    walk_at "hr"
    refine HX.ited_ (fun h2 => ?_) (fun h2 => ?_)
    · rw [if_pos (decide_eq_true h2)] at hbs
      walk_at "hr"
      exact ⟨e1.trans e2, _, _, _, rfl, ⟨by omega, by omega, by omega, by omega⟩, hbs⟩
    · rw [if_neg (by rw [decide_eq_false h2]; exact Bool.false_ne_true)] at hbs
      walk_at "hr"
      exact ⟨e1.trans e2, _, _, _, rfl, ⟨by omega, by omega, by omega, by omega⟩, hbs⟩
  · rw [bs_end (by omega)] at hbs
    walk_at "hr"
    rw [hbs]
    exact q _ e1
theorem use_least_step {a b c d e : Int} {H : Hp} {Q : VK} {E : XK} (g : Grow a b c d) (he : e = 1 ∨ e = -1) (q : ∀ H', Same H H' → Q (.int (lst a b c d e)) H') : sp_least_step K ([.int a, .int b, .int c, .int d, .int e] ++ []) H Q E := ⟨a, b, c, d, e, rfl, g, he, q⟩
theorem use_ByPower {T : Tx P K mg} {x dx : Addr} {p : Int} {H : Hp} {Q : VK} {E : XK} (hx : H x = none) (hd : H dx = none) (q : ∀ H', Same H H' → HC.Pap K H' x T.C_ByPower "bypower" (.tuple [.int p]) [("power", .int p)] → Q (.ref x) H') :
    sp_ByPower_init T [.ref x, .int p] (upd (upd H dx (.own x)) x (.ins T.C_ByPower dx [])) (fun v H2 => v = .non ∧ Q (.ref x) H2) E := ⟨x, dx, p, rfl, upd_same, fun H' k h => ⟨rfl, q H' (HC.made hx hd k) h⟩⟩
theorem use_Between {T : Tx P K mg} {x dx : Addr} {p : Int} {H : Hp} {Q : VK} {E : XK} (hx : H x = none) (hd : H dx = none) (q : ∀ H', Same H H' → HC.Pap K H' x T.C_Between "between" (.tuple [.int p]) [("low", .int p)] → Q (.ref x) H') :
    sp_Between_init T [.ref x, .int p] (upd (upd H dx (.own x)) x (.ins T.C_Between dx [])) (fun v H2 => v = .non ∧ Q (.ref x) H2) E := ⟨x, dx, p, rfl, upd_same, fun H' k h => ⟨rfl, q H' (HC.made hx hd k) h⟩⟩
/-- at x stands the paper r: by a power, or between two -/
def Res (T : Tx P K mg) (H : Hp) (x : Addr) (r : Bool × Int) : Prop :=
  if r.1 = true then HC.Pap K H x T.C_ByPower "bypower" (.tuple [.int r.2]) [("power", .int r.2)] else HC.Pap K H x T.C_Between "between" (.tuple [.int r.2]) [("low", .int r.2)]
theorem Res.same {T : Tx P K mg} {H H' : Hp} {x : Addr} {r : Bool × Int} (h : Res T H x r) (e : Same H H') : Res T H' x r := by
  obtain ⟨b, p⟩ := r
  cases b
  · exact HC.Pap.same (show HC.Pap K H x T.C_Between "between" (.tuple [.int p]) [("low", .int p)] from h) e
  · exact HC.Pap.same (show HC.Pap K H x T.C_ByPower "bypower" (.tuple [.int p]) [("power", .int p)] from h) e
def resS (a b c d side : Int) : Bool × Int :=
  if S a b c d (side * lst a b c d side) = 0 then (true, side * lst a b c d side) else (false, if side > 0 then lst a b c d side - 1 else - lst a b c d side)
def res (a b c d : Int) : Bool × Int := if a * d = b * c then (true, 0) else resS a b c d (if a * d < b * c then 1 else -1)
def sp_power_of (T : Tx P K mg) : Sp := fun vs H Q _ => ∃ a b c d : Int, vs = [.int a, .int b, .int c, .int d] ∧ Grow a b c d ∧ ∀ x H', Same H H' → Res T H' x (res a b c d) → Q (.ref x) H'
theorem ok_power_of (T : Tx P K mg) : FnOk P w K mg base CX0 7 T.f_power_of T.fd_power_of ["a", "b", "c", "d"] (sp_power_of T) := by
  refine T.F_power_of.ok sc_power_of (fun vs H Q E h => ?_) (fun cdv A outer s H vs Q E hr h => ?_)
  · obtain ⟨a, b, c, d, rfl, g, q⟩ := h; rfl
  obtain ⟨a, b, c, d, rfl, g, q⟩ := h
  refine ⟨_, (pss_cons (ps_expr (pe_call (ok_need_growing T) (hr.mono (by decide)) (by rfl) T.g_need_growing T.F_need_growing.kp T.b_need_growing .nil pass0 (pa_cons (pv 0) (pa_cons (pv 1) (pa_cons (pv 2) (pa_cons (pv 3) pa_nil))))))
      (pss_cons (ps_if (pt_cmpR (op_eqK (K := K) hr.units) (pe_op op_mulU (pv 0) (pv 3)) (pe_op op_mulU (pv 1) (pv 2)) (nomark _)) (pss_one (ps_ret (StX.pe_makeR T.mk_ByPower (ok_ByPower_init T) (hr.mono (by decide)) (by rfl) T.g_ByPower pass0 (pa_cons pe_int pa_nil)))) pss_nil)
      (pss_cons (ps_set (i := 4) sc_power_of.nd rfl (by first | exact .inl rfl | exact .inr rfl) (pe_ifExp (pt_cmpR op_lt (pe_op op_mulU (pv 0) (pv 3)) (pe_op op_mulU (pv 1) (pv 2)) (nomark _)) pe_int (pe_un un_neg pe_int)))
      (pss_cons (ps_set (i := 5) sc_power_of.nd rfl (by first | exact .inl rfl | exact .inr rfl) (pe_call (ok_least_step T) (hr.mono (by decide)) (by rfl) T.g_least_step T.F_least_step.kp T.b_least_step .nil pass0 (pa_cons (pv 0) (pa_cons (pv 1) (pa_cons (pv 2) (pa_cons (pv 3) (pa_cons (pv 4) pa_nil)))))))
      (pss_cons (ps_if (pt_cmpR (op_eqK (K := K) hr.units) (pe_call (ok_sum_at T) (hr.mono (by decide)) (by rfl) T.g_sum_at T.F_sum_at.kp T.b_sum_at .nil pass0 (pa_cons (pv 0) (pa_cons (pv 1) (pa_cons (pv 2) (pa_cons (pv 3) (pa_cons (pe_op op_mulU (pv 4) (pv 5)) pa_nil)))))) pe_int (nomark _)) (pss_one (ps_ret (StX.pe_makeR T.mk_ByPower (ok_ByPower_init T) (hr.mono (by decide)) (by rfl) T.g_ByPower pass0 (pa_cons (pe_op op_mulU (pv 4) (pv 5)) pa_nil)))) pss_nil)
      (pss_one (ps_ret (StX.pe_makeR T.mk_Between (ok_Between_init T) (hr.mono (by decide)) (by rfl) T.g_Between pass0 (pa_cons (pe_ifExp (pt_cmpR op_gt (pv 4) pe_int (nomark _)) (pe_op op_sub (pv 5) pe_int) (pe_un un_neg (pv 5))) pa_nil))))))))), ?_⟩
  refine HX.start_ (σ := [some (.int a : V), some (.int b : V), some (.int c : V), some (.int d : V), none, none]) rfl ?_
  obtain ⟨g1, g2, g3, g4, g5⟩ := id g
  have o := g.ok4
  walk_at "hr"
  refine HX.ited_ (fun h => ?_) (fun h => ?_)
  · have er : res a b c d = (true, 0) := if_pos h
    rw [er] at q
    walk_at "hr"
    refine HC.make_ ?_
    walk_at "hr"
    intro x dx hx hd _
    refine use_ByPower hx hd fun H' e h => ?_
    walk_at "hr"
    exact q x H' e h
  · have er : res a b c d = resS a b c d (if a * d < b * c then 1 else -1) := if_neg h
    rw [er] at q
    walk_at "hr"
    refine HC.joinN_ fun e he => ?_
    have he1 : e = 1 ∨ e = -1 := by
      rcases he with ⟨_, z⟩ | ⟨_, z⟩
      · exact .inl z
      · exact .inr z
    have he2 : (if a * d < b * c then (1 : Int) else -1) = e := by
      rcases he with ⟨z, y⟩ | ⟨z, y⟩
      · rw [if_pos (of_decide_eq_true z), y]
      · rw [if_neg (of_decide_eq_false z), y]
    rw [he2] at q
    clear he2 he er
    walk_at "hr"
    refine use_least_step g he1 fun H1 e1 => ?_
    have bd := bs_bd (neg := fun m => decide (S a b c d (e * m) < 0)) (n := 7) (low := 0) (high := 80) (by omega)
    have hb2 : 0 < lst a b c d e ∧ lst a b c d e ≤ 80 := bd
    have hp : -80 ≤ e * lst a b c d e ∧ e * lst a b c d e ≤ 80 := by rcases he1 with rfl | rfl <;> omega
    have er2 : resS a b c d e = if S a b c d (e * lst a b c d e) = 0 then (true, e * lst a b c d e) else (false, if e > 0 then lst a b c d e - 1 else - lst a b c d e) := rfl
    generalize lst a b c d e = s at hb2 hp er2 ⊢
    walk_at "hr"
    intro H2 e2
    walk_at "hr"
    refine HX.ited_ (fun h2 => ?_) (fun h2 => ?_)
    · rw [if_pos h2] at er2
      rw [er2] at q
      walk_at "hr"
      refine HC.make_ ?_
      walk_at "hr"
      intro x dx hx hd _
      refine use_ByPower hx hd fun H' e' h => ?_
      walk_at "hr"
      exact q x H' ((e1.trans e2).trans e') h
    · rw [if_neg h2] at er2
      rw [er2] at q
      walk_at "hr"
      refine HC.make_ ?_
      walk_at "hr"
      refine HX.ited_ (fun h3 => ?_) (fun h3 => ?_)
      · rw [if_pos h3] at q
        walk_at "hr"
        intro x dx hx hd _
        refine use_Between hx hd fun H' e' h => ?_
        walk_at "hr"
        exact q x H' ((e1.trans e2).trans e') h
      · rw [if_neg h3] at q
        walk_at "hr"
        intro x dx hx hd _
        refine use_Between hx hd fun H' e' h => ?_
        walk_at "hr"
        exact q x H' ((e1.trans e2).trans e') h
theorem use_is_by {a b c d p : Int} {H : Hp} {Q : VK} {E : XK} (o : Ok4 a b c d) (hp : -80 ≤ p ∧ p ≤ 80) (q : ∀ H', Same H H' → Q (.bl (By a b c d p)) H') : sp_is_by K ([.int a, .int b, .int c, .int d, .int p] ++ []) H Q E := ⟨a, b, c, d, p, rfl, o, hp, q⟩
theorem use_sign_at {a b c d p : Int} {H : Hp} {Q : VK} {E : XK} (o : Ok4 a b c d) (hp : -80 ≤ p ∧ p ≤ 80) (q : ∀ H', Same H H' → Q (.int (sgn (S a b c d p))) H') : sp_sign_at K ([.int a, .int b, .int c, .int d, .int p] ++ []) H Q E := ⟨a, b, c, d, p, rfl, o, hp, q⟩
local macro_rules | `(tactic| walk_at "hu") => `(tactic| first
  | ((with_reducible refine' use_is_by ?o ?p ?_); (case o => assumption); (case p => first | assumption | (constructor <;> omega)))
  | ((with_reducible refine' use_sign_at ?o ?p ?_); (case o => assumption); (case p => first | assumption | (constructor <;> omega))))
structure Grn (m a b c d : Int) : Prop where
  g1 : 1 ≤ a
  g2 : a < b
  g3 : b ≤ c
  g4 : c < d
  g5 : d ≤ m
def sp__law_grown (K : PySem.W.Frag) : Sp := fun vs H Q _ => ∃ (g k : Addr) (m : Int) (ns : List Int) (n : Nat), vs = [.ref g, .int m] ∧ Hat H g k ns n ∧ n ≤ 90000 ∧ (4 ≤ m ∧ m ≤ 1000) ∧
  ∀ p H' a b c d, Kept g H H' → Hat H' g k ns (n + 4) → H' p = some (.lst [.int a, .int b, .int c, .int d]) → p ≠ g → Grn m a b c d → Q (.ref p) H'
theorem ok__law_grown (T : Tx P K mg) : FnOk P w K mg base CX0 2 T.f__law_grown T.fd__law_grown ["hat", "most"] (sp__law_grown K) := by
  refine T.F__law_grown.ok sc__law_grown (fun vs H Q E h => ?_) (fun cdv A outer s H vs Q E hr h => ?_)
  · obtain ⟨g, k, m, ns, n, rfl, hh, hn, hm, q⟩ := h; rfl
  obtain ⟨g, k, m, ns, n, rfl, hh, hn, hm, q⟩ := h
  refine ⟨_, (pss_cons (ps_set (i := 2) sc__law_grown.nd rfl (by first | exact .inl rfl | exact .inr rfl) (pe_op (op_addK (K := K)) pe_int (pe_call (ok__law_lot T) (hr.mono (by decide)) (by rfl) T.g__law_lot T.F__law_lot.kp T.b__law_lot .nil pass0 (pa_cons (pv 0) (pa_cons (pe_op op_sub (pv 1) pe_int) pa_nil)))))
      (pss_cons (ps_set (i := 3) sc__law_grown.nd rfl (by first | exact .inl rfl | exact .inr rfl) (pe_op (op_addK (K := K)) (pe_op (op_addK (K := K)) (pv 2) pe_int) (pe_call (ok__law_lot T) (hr.mono (by decide)) (by rfl) T.g__law_lot T.F__law_lot.kp T.b__law_lot .nil pass0 (pa_cons (pv 0) (pa_cons (pe_op op_sub (pe_op op_sub (pv 1) pe_int) (pv 2)) pa_nil)))))
      (pss_cons (ps_set (i := 4) sc__law_grown.nd rfl (by first | exact .inl rfl | exact .inr rfl) (pe_op (op_addK (K := K)) (pv 3) (pe_call (ok__law_lot T) (hr.mono (by decide)) (by rfl) T.g__law_lot T.F__law_lot.kp T.b__law_lot .nil pass0 (pa_cons (pv 0) (pa_cons (pe_op op_sub (pv 1) (pv 3)) pa_nil)))))
      (pss_one (ps_ret (pe_lst (pa_cons (pv 2) (pa_cons (pv 3) (pa_cons (pv 4) (pa_cons (pe_op (op_addK (K := K)) (pe_op (op_addK (K := K)) (pv 4) pe_int) (pe_call (ok__law_lot T) (hr.mono (by decide)) (by rfl) T.g__law_lot T.F__law_lot.kp T.b__law_lot .nil pass0 (pa_cons (pv 0) (pa_cons (pe_op op_sub (pv 1) (pv 4)) pa_nil)))) pa_nil)))))))))), ?_⟩
  refine HX.start_ (σ := [some (.ref g : V), some (.int m : V), none, none, none]) rfl ?_
  walk_at "hr"
  intro d1 H1 b1 b1' k1 h1
  walk_at "hr"
  intro d2 H2 b2 b2' k2 h2
  walk_at "hr"
  intro d3 H3 b3 b3' k3 h3
  walk_at "hr"
  intro d4 H4 b4 b4' k4 h4
  walk_at "hr"
  intro p hp
  have kk := ((k1.trans k2).trans k3).trans k4
  exact q p _ _ _ _ _ (kept_new kk hp) (h4.new hp) upd_same (h4.na hp) ⟨by omega, by omega, by omega, by omega, by omega⟩
theorem use_grown {g k : Addr} {m : Int} {ns : List Int} {n : Nat} {H : Hp} {Q : VK} {E : XK} (hh : Hat H g k ns n) (hn : n ≤ 90000) (hm : 4 ≤ m ∧ m ≤ 1000) (q : ∀ p H' a b c d, Kept g H H' → Hat H' g k ns (n + 4) → H' p = some (.lst [.int a, .int b, .int c, .int d]) → p ≠ g → Grn m a b c d → Q (.ref p) H') :
    sp__law_grown K ([.ref g, .int m] ++ []) H Q E := ⟨g, k, m, ns, n, rfl, hh, hn, hm, q⟩
def sp__law_power (K : PySem.W.Frag) : Sp := fun vs H Q _ => ∃ (g k : Addr) (ns : List Int) (n : Nat), vs = [.ref g] ∧ Hat H g k ns n ∧ n ≤ 90000 ∧ ∀ p H', -80 ≤ p → p ≤ 80 → Kept g H H' → Hat H' g k ns (n + 4) → Q (.int p) H'
theorem ok__law_power (T : Tx P K mg) : FnOk P w K mg base CX0 3 T.f__law_power T.fd__law_power ["hat"] (sp__law_power K) := by
  refine T.F__law_power.ok sc__law_power (fun vs H Q E h => ?_) (fun cdv A outer s H vs Q E hr h => ?_)
  · obtain ⟨g, k, ns, n, rfl, hh, hn, q⟩ := h; rfl
  obtain ⟨g, k, ns, n, rfl, hh, hn, q⟩ := h
  refine ⟨_, (pss_one (ps_ret (pe_call (ok__law_one T) (hr.mono (by decide)) (by rfl) T.g__law_one T.F__law_one.kp T.b__law_one .nil pass0 (pa_cons (pv 0) (pa_cons (pe_lst (pa_cons (pe_op op_sub (pe_call (ok__law_lot T) (hr.mono (by decide)) (by rfl) T.g__law_lot T.F__law_lot.kp T.b__law_lot .nil pass0 (pa_cons (pv 0) (pa_cons pe_int pa_nil))) pe_int) (pa_cons (pe_op op_sub (pe_call (ok__law_lot T) (hr.mono (by decide)) (by rfl) T.g__law_lot T.F__law_lot.kp T.b__law_lot .nil pass0 (pa_cons (pv 0) (pa_cons pe_int pa_nil))) pe_int) (pa_cons (pe_op op_sub (pe_call (ok__law_lot T) (hr.mono (by decide)) (by rfl) T.g__law_lot T.F__law_lot.kp T.b__law_lot .nil pass0 (pa_cons (pv 0) (pa_cons pe_int pa_nil))) pe_int) pa_nil)))) pa_nil))))), ?_⟩
  refine HX.start_ (σ := [some (.ref g : V)]) rfl ?_
  walk_at "hr"
  intro d1 H1 b1 b1' k1 h1
  walk_at "hr"
  intro d2 H2 b2 b2' k2 h2
  walk_at "hr"
  intro d3 H3 b3 b3' k3 h3
  walk_at "hr"
  intro p hp
  have kk := (k1.trans k2).trans k3
  refine use_one (E := E0) (h3.new hp) (by omega) (SqL.of upd_same) (h3.na hp) ⟨by show 0 < 3; omega, by show 3 ≤ 1000; omega⟩ fun v H4 hv k4 h4 => ?_
  have hv2 : ∃ z : Int, v = .int z ∧ -80 ≤ z ∧ z ≤ 80 := by
    simp only [List.mem_cons, List.mem_nil_iff, or_false] at hv
    rcases hv with rfl | rfl | rfl <;> exact ⟨_, rfl, by omega, by omega⟩
  obtain ⟨z, rfl, z1, z2⟩ := hv2
  walk_at "hr"
  exact q z _ z1 z2 ((kept_new kk hp).trans k4) h4
theorem use_power {g k : Addr} {ns : List Int} {n : Nat} {H : Hp} {Q : VK} {E : XK} (hh : Hat H g k ns n) (hn : n ≤ 90000) (q : ∀ p H', -80 ≤ p → p ≤ 80 → Kept g H H' → Hat H' g k ns (n + 4) → Q (.int p) H') : sp__law_power K ([.ref g] ++ []) H Q E := ⟨g, k, ns, n, rfl, hh, hn, q⟩
local macro_rules | `(tactic| walk_at "hu") => `(tactic| first
  | ((with_reducible refine' use_grown ?h ?n ?m ?_); (case h => assumption); (case n => omega); (case m => constructor <;> omega))
  | ((with_reducible refine' use_power ?h ?n ?_); (case h => assumption); (case n => omega)))
/-- both fours answer alike -/
def Alike (a b c d p e f g h t : Int) : Prop := By a b c d p = By e f g h t ∧ sgn (S a b c d p) = sgn (S e f g h t)
def sp__law_same (K : PySem.W.Frag) : Sp := fun vs H Q _ => ∃ (p1 p2 : Addr) (a b c d e f g h p t : Int), vs = [.ref p1, .ref p2, .int p, .int t] ∧ SqL K H p1 [.int a, .int b, .int c, .int d] ∧ SqL K H p2 [.int e, .int f, .int g, .int h] ∧ Ok4 a b c d ∧ Ok4 e f g h ∧ (-80 ≤ p ∧ p ≤ 80) ∧ (-80 ≤ t ∧ t ≤ 80) ∧ Alike a b c d p e f g h t ∧
  ∀ H', Same H H' → Q (.bl true) H'
theorem ok__law_same (T : Tx P K mg) : FnOk P w K mg base CX0 7 T.f__law_same T.fd__law_same ["four", "other", "power", "turned"] (sp__law_same K) := by
  refine T.F__law_same.ok sc__law_same (fun vs H Q E h => ?_) (fun cdv A outer s H vs Q E hr h => ?_)
  · obtain ⟨p1, p2, a, b, c, d, e, f, g, h, p, t, rfl, s1, s2, o1, o2, hp, ht, al, q⟩ := h; rfl
  obtain ⟨p1, p2, a, b, c, d, e, f, g, h, p, t, rfl, s1, s2, o1, o2, hp, ht, al, q⟩ := h
  refine ⟨_, (pss_cons (ps_asg (pv 0) (pg_unlK (K := K) 4 (by rfl) (pgs_cons (pg_name (i := 4) sc__law_same.nd rfl (by first | exact .inl rfl | exact .inr rfl)) (pgs_cons (pg_name (i := 5) sc__law_same.nd rfl (by first | exact .inl rfl | exact .inr rfl)) (pgs_cons (pg_name (i := 6) sc__law_same.nd rfl (by first | exact .inl rfl | exact .inr rfl)) (pgs_cons (pg_name (i := 7) sc__law_same.nd rfl (by first | exact .inl rfl | exact .inr rfl)) pgs_nil))))))
      (pss_cons (ps_asg (pv 1) (pg_unlK (K := K) 4 (by rfl) (pgs_cons (pg_name (i := 8) sc__law_same.nd rfl (by first | exact .inl rfl | exact .inr rfl)) (pgs_cons (pg_name (i := 9) sc__law_same.nd rfl (by first | exact .inl rfl | exact .inr rfl)) (pgs_cons (pg_name (i := 10) sc__law_same.nd rfl (by first | exact .inl rfl | exact .inr rfl)) (pgs_cons (pg_name (i := 11) sc__law_same.nd rfl (by first | exact .inl rfl | exact .inr rfl)) pgs_nil))))))
      (pss_cons (ps_if (pt_cmpR (op_neK (K := K) hr.units) (pe_call (ok_is_by T) (hr.mono (by decide)) (by rfl) T.g_is_by T.F_is_by.kp T.b_is_by .nil pass0 (pa_cons (pv 4) (pa_cons (pv 5) (pa_cons (pv 6) (pa_cons (pv 7) (pa_cons (pv 2) pa_nil)))))) (pe_call (ok_is_by T) (hr.mono (by decide)) (by rfl) T.g_is_by T.F_is_by.kp T.b_is_by .nil pass0 (pa_cons (pv 8) (pa_cons (pv 9) (pa_cons (pv 10) (pa_cons (pv 11) (pa_cons (pv 3) pa_nil)))))) (nomark _)) (pss_one (ps_ret pe_bl)) pss_nil)
      (pss_one (ps_ret (pe_cmpR (op_eqK (K := K) hr.units) (pe_call (ok_sign_at T) (hr.mono (by decide)) (by rfl) T.g_sign_at T.F_sign_at.kp T.b_sign_at .nil pass0 (pa_cons (pv 4) (pa_cons (pv 5) (pa_cons (pv 6) (pa_cons (pv 7) (pa_cons (pv 2) pa_nil)))))) (pe_call (ok_sign_at T) (hr.mono (by decide)) (by rfl) T.g_sign_at T.F_sign_at.kp T.b_sign_at .nil pass0 (pa_cons (pv 8) (pa_cons (pv 9) (pa_cons (pv 10) (pa_cons (pv 11) (pa_cons (pv 3) pa_nil)))))) (nomark _))))))), ?_⟩
  refine HX.start_ (σ := [some (.ref p1 : V), some (.ref p2 : V), some (.int p : V), some (.int t : V), none, none, none, none, none, none, none, none]) rfl ?_
  walk_at "hr"
  refine ⟨p1, _, rfl, s1, rfl, ?_⟩
  walk_at "hr"
  refine ⟨p2, _, rfl, s2, rfl, ?_⟩
  walk_at "hr"
  intro H1 e1
  walk_at "hr"
  intro H2 e2
  rw [al.1]
  walk_at "hr"
  rw [show (!decide (By e f g h t = By e f g h t)) = false from by rw [decide_eq_true rfl]; rfl]
  walk_at "hr"
  intro H3 e3
  walk_at "hr"
  intro H4 e4
  rw [al.2]
  walk_at "hr"
  rw [decide_eq_true rfl]
  exact q _ (((e1.trans e2).trans e3).trans e4)
theorem use_same {p1 p2 : Addr} {a b c d e f g h p t : Int} {H : Hp} {Q : VK} {E : XK} (s1 : SqL K H p1 [.int a, .int b, .int c, .int d]) (s2 : SqL K H p2 [.int e, .int f, .int g, .int h]) (o1 : Ok4 a b c d) (o2 : Ok4 e f g h) (hp : -80 ≤ p ∧ p ≤ 80) (ht : -80 ≤ t ∧ t ≤ 80) (al : Alike a b c d p e f g h t)
    (q : ∀ H', Same H H' → Q (.bl true) H') : sp__law_same K ([.ref p1, .ref p2, .int p, .int t] ++ []) H Q E := ⟨p1, p2, a, b, c, d, e, f, g, h, p, t, rfl, s1, s2, o1, o2, hp, ht, al, q⟩
theorem use_power_of {T : Tx P K mg} {a b c d : Int} {H : Hp} {Q : VK} {E : XK} (g : Grow a b c d) (q : ∀ x H', Same H H' → Res T H' x (res a b c d) → Q (.ref x) H') : sp_power_of T ([.int a, .int b, .int c, .int d] ++ []) H Q E := ⟨a, b, c, d, rfl, g, q⟩
def dvd (r : Bool × Int) (k : Int) : Bool × Int := if r.1 = true then (if r.2 % k = 0 then (true, r.2 / k) else (false, r.2 / k)) else (false, r.2 / k)
def sp__law_divided (T : Tx P K mg) : Sp := fun vs H Q _ => ∃ (x : Addr) (k : Int) (r : Bool × Int), vs = [.ref x, .int k] ∧ Res T H x r ∧ (1 ≤ k ∧ k ≤ 100) ∧ ∀ y H', Same H H' → Res T H' y (dvd r k) → Q (.ref y) H'
theorem ok__law_divided (T : Tx P K mg) : FnOk P w K mg base CX0 7 T.f__law_divided T.fd__law_divided ["found", "many"] (sp__law_divided T) := by
  refine T.F__law_divided.ok sc__law_divided (fun vs H Q E h => ?_) (fun cdv A outer s H vs Q E hr h => ?_)
  · obtain ⟨x, k, ⟨b, i⟩, rfl, hx, hk, q⟩ := h; rfl
  obtain ⟨x, k, ⟨b, i⟩, rfl, hx, hk, q⟩ := h
  refine ⟨_, (pss_cons (ps_if (pt_val (pe_callB (call_isiK' (K := K)) (by rfl) T.z_isinstance (by decide +kernel) (pa_cons (pv 0) (pa_cons (pe_glob (v := .ref T.C_Between) (by rfl) T.g_Between rfl) pa_nil)))) (pss_one (ps_ret (StX.pe_makeR T.mk_Between (ok_Between_init T) (hr.mono (by decide)) (by rfl) T.g_Between pass0 (pa_cons (pe_op op_fdivU (HC.pe_fldK (K := K) (pv 0)) (pv 1)) pa_nil)))) pss_nil)
      (pss_one (ps_ret (pe_ifExp (pt_cmpR (op_eqK (K := K) hr.units) (pe_op op_modU (pe_callTy call_intU (by rfl) T.z_int (by decide +kernel) (pa_cons (HC.pe_fldK (K := K) (pv 0)) pa_nil)) (pv 1)) pe_int (nomark _)) (StX.pe_makeR T.mk_ByPower (ok_ByPower_init T) (hr.mono (by decide)) (by rfl) T.g_ByPower pass0 (pa_cons (pe_op op_fdivU (HC.pe_fldK (K := K) (pv 0)) (pv 1)) pa_nil)) (StX.pe_makeR T.mk_Between (ok_Between_init T) (hr.mono (by decide)) (by rfl) T.g_Between pass0 (pa_cons (pe_op op_fdivU (HC.pe_fldK (K := K) (pv 0)) (pv 1)) pa_nil)))))), ?_⟩
  refine HX.start_ (σ := [some (.ref x : V), some (.int k : V)]) rfl ?_
  cases b with
  | false =>
    obtain ⟨dx, t, h1, h2⟩ : HC.Pap K H x T.C_Between "between" (.tuple [.int i]) [("low", .int i)] := hx
    rw [show dvd (false, i) k = (false, i / k) from rfl] at q
    walk_at "hr"
    refine HX.isi_ (.own _) (T.pc_Between.ty h1) T.is_Between_Between ?_
    walk_at "hr"
    refine HC.make_ ?_
    walk_at "hr"
    refine HC.fld_ ?_
    walk_at "hr"
    refine HC.fldE_ h1 T.pc_Between.cl T.na_Between_low (HC.lk_third (by decide) (by decide)) ?_
    walk_at "hr"
    intro y dy hy hd _
    refine use_Between hy hd fun H' e' h => ?_
    walk_at "hr"
    exact q y H' e' h
  | true =>
    obtain ⟨dx, t, h1, h2⟩ : HC.Pap K H x T.C_ByPower "bypower" (.tuple [.int i]) [("power", .int i)] := hx
    rw [show dvd (true, i) k = if i % k = 0 then (true, i / k) else (false, i / k) from rfl] at q
    walk_at "hr"
    refine HX.isi_ (.own _) (T.pc_ByPower.ty h1) T.is_ByPower_Between ?_
    walk_at "hr"
    refine HC.fld_ ?_
    walk_at "hr"
    refine HC.fldE_ h1 T.pc_ByPower.cl T.na_ByPower_power (HC.lk_third (by decide) (by decide)) ?_
    walk_at "hr"
    intro z hz _ _
    walk_at "hr"
    rw [hz] at q
    refine HX.ited_ (fun h => ?_) (fun h => ?_)
    · rw [if_pos h] at q
      refine HC.make_ ?_
      walk_at "hr"
      refine HC.fld_ ?_
      walk_at "hr"
      refine HC.fldE_ h1 T.pc_ByPower.cl T.na_ByPower_power (HC.lk_third (by decide) (by decide)) ?_
      walk_at "hr"
      intro y dy hy hd _
      refine use_ByPower hy hd fun H' e' h => ?_
      walk_at "hr"
      exact q y H' e' h
    · rw [if_neg h] at q
      refine HC.make_ ?_
      walk_at "hr"
      refine HC.fld_ ?_
      walk_at "hr"
      refine HC.fldE_ h1 T.pc_ByPower.cl T.na_ByPower_power (HC.lk_third (by decide) (by decide)) ?_
      walk_at "hr"
      intro y dy hy hd _
      refine use_Between hy hd fun H' e' h => ?_
      walk_at "hr"
      exact q y H' e' h
theorem use_divided {T : Tx P K mg} {x : Addr} {k : Int} {r : Bool × Int} {H : Hp} {Q : VK} {E : XK} (hx : Res T H x r) (hk : 1 ≤ k ∧ k ≤ 100) (q : ∀ y H', Same H H' → Res T H' y (dvd r k) → Q (.ref y) H') : sp__law_divided T ([.ref x, .int k] ++ []) H Q E := ⟨x, k, r, rfl, hx, hk, q⟩
/-! plain law: sums at powers, scaled, raised, turned -/
theorem ite_map {α : Type} {c : Prop} [Decidable c] {x y : α} {P : α → Prop} (h1 : c → P x) (h2 : ¬ c → P y) : P (if c then x else y) := by
  by_cases h : c
  · rw [if_pos h]; exact h1 h
  · rw [if_neg h]; exact h2 h
theorem four_mul (m x y z u : Int) : m * x + m * y - m * z - m * u = m * (x + y - z - u) := by rw [Int.mul_sub, Int.mul_sub, Int.mul_add]
theorem pow_eq {m x w y : Int} (n : Nat) (h : m * x = w * y) : m ^ n * x ^ n = w ^ n * y ^ n := by rw [← Int.mul_pow, h, Int.mul_pow]
theorem four_eq {m w x y z u x' y' z' u' : Int} (n : Nat) (h1 : m * x = w * x') (h2 : m * y = w * y') (h3 : m * z = w * z') (h4 : m * u = w * u') :
    m ^ n * (x ^ n + y ^ n - z ^ n - u ^ n) = w ^ n * (x' ^ n + y' ^ n - z' ^ n - u' ^ n) := by
  rw [← four_mul, ← four_mul, pow_eq n h1, pow_eq n h2, pow_eq n h3, pow_eq n h4]
theorem S_neg {a b c d p : Int} (h : p < 0) : S a b c d p = (b * c * d) ^ (-p).toNat + (a * b * c) ^ (-p).toNat - (a * c * d) ^ (-p).toNat - (a * b * d) ^ (-p).toNat := if_pos h
theorem S_pos {a b c d p : Int} (h : ¬ p < 0) : S a b c d p = a ^ p.toNat + d ^ p.toNat - b ^ p.toNat - c ^ p.toNat := if_neg h
theorem S_scale {k : Int} (hk : 0 < k) (a b c d p : Int) : ∃ m1 m2 : Int, 0 < m1 ∧ 0 < m2 ∧ m1 * S (k * a) (k * b) (k * c) (k * d) p = m2 * S a b c d p := by
  by_cases h : p < 0
  · refine ⟨1 ^ (-p).toNat, (k * k * k) ^ (-p).toNat, Int.pow_pos (by omega), Int.pow_pos (Int.mul_pos (Int.mul_pos hk hk) hk), ?_⟩
    rw [S_neg h, S_neg h]
    exact four_eq _ (by rw [Int.one_mul]; ac_rfl) (by rw [Int.one_mul]; ac_rfl) (by rw [Int.one_mul]; ac_rfl) (by rw [Int.one_mul]; ac_rfl)
  · refine ⟨1 ^ p.toNat, k ^ p.toNat, Int.pow_pos (by omega), Int.pow_pos hk, ?_⟩
    rw [S_pos h, S_pos h]
    exact four_eq _ (Int.one_mul _) (Int.one_mul _) (Int.one_mul _) (Int.one_mul _)
theorem pow_toNat {x p : Int} {k : Nat} (h : 0 ≤ p) : (x ^ k) ^ p.toNat = x ^ (p * (k : Int)).toNat := by
  rw [← Int.pow_mul]
  congr 1
  rw [Int.toNat_mul h (by omega), Int.toNat_natCast, Nat.mul_comm]
theorem S_pow {k : Nat} (hk : 0 < k) (a b c d p : Int) : S (a ^ k) (b ^ k) (c ^ k) (d ^ k) p = S a b c d (p * k) := by
  by_cases h : p < 0
  · have h2 : p * (k : Int) < 0 := Int.mul_neg_of_neg_of_pos h (by omega)
    rw [S_neg h, S_neg h2, ← Int.neg_mul]
    simp only [← Int.mul_pow]
    rw [pow_toNat (by omega), pow_toNat (by omega), pow_toNat (by omega), pow_toNat (by omega)]
  · have h2 : ¬ p * (k : Int) < 0 := by
      have := Int.mul_nonneg (a := p) (b := (k : Int)) (by omega) (by omega)
      omega
    rw [S_pos h, S_pos h2, pow_toNat (by omega), pow_toNat (by omega), pow_toNat (by omega), pow_toNat (by omega)]
theorem S_zero (a b c d : Int) : S a b c d 0 = 0 := by rw [S_pos (by omega)]; show a ^ 0 + d ^ 0 - b ^ 0 - c ^ 0 = 0; simp only [Int.pow_zero]; rfl
theorem S_inv {w a b c d a' b' c' d' : Int} (hw : 0 < w) (ha : a * a' = w) (hb : b * b' = w) (hc : c * c' = w) (hd : d * d' = w) (pa : 0 < a) (pb : 0 < b) (pc : 0 < c) (pd : 0 < d) (p : Int) :
    ∃ m1 m2 : Int, 0 < m1 ∧ 0 < m2 ∧ m1 * S a' b' c' d' (-p) = m2 * S a b c d p := by
  have pm : 0 < a * b * c * d := Int.mul_pos (Int.mul_pos (Int.mul_pos pa pb) pc) pd
  by_cases h0 : p = 0
  · subst h0
    exact ⟨1, 1, by omega, by omega, by rw [Int.neg_zero, S_zero, S_zero]⟩
  · by_cases h : p < 0
    · refine ⟨(a * b * c * d) ^ (-p).toNat, w ^ (-p).toNat, Int.pow_pos pm, Int.pow_pos hw, ?_⟩
      rw [S_neg h, S_pos (by omega)]
      refine four_eq _ ?_ ?_ ?_ ?_
      · rw [← ha]; ac_rfl
      · rw [← hd]; ac_rfl
      · rw [← hb]; ac_rfl
      · rw [← hc]; ac_rfl
    · refine ⟨(a * b * c * d) ^ p.toNat, (w * w * w) ^ p.toNat, Int.pow_pos pm, Int.pow_pos (Int.mul_pos (Int.mul_pos hw hw) hw), ?_⟩
      rw [S_neg (by omega), S_pos h, Int.neg_neg]
      refine four_eq _ ?_ ?_ ?_ ?_
      · rw [show w * w * w * a = b * b' * (c * c') * (d * d') * a by rw [hb, hc, hd]]; ac_rfl
      · rw [show w * w * w * d = a * a' * (b * b') * (c * c') * d by rw [ha, hb, hc]]; ac_rfl
      · rw [show w * w * w * b = a * a' * (c * c') * (d * d') * b by rw [ha, hc, hd]]; ac_rfl
      · rw [show w * w * w * c = a * a' * (b * b') * (d * d') * c by rw [ha, hb, hd]]; ac_rfl
theorem neg_iff {m1 m2 x y : Int} (h1 : 0 < m1) (h2 : 0 < m2) (e : m1 * x = m2 * y) : (x < 0 ↔ y < 0) ∧ (x = 0 ↔ y = 0) ∧ (x > 0 ↔ y > 0) := by
  have key : ∀ {m z : Int}, 0 < m → (z < 0 → m * z < 0) ∧ (z = 0 → m * z = 0) ∧ (z > 0 → m * z > 0) := fun {m z} hm =>
    ⟨fun h => Int.mul_neg_of_pos_of_neg hm h, fun h => by rw [h, Int.mul_zero], fun h => Int.mul_pos hm h⟩
  have a := key (z := x) h1
  have b := key (z := y) h2
  generalize m1 * x = u at a e
  generalize m2 * y = v at b e
  refine ⟨⟨fun h => ?_, fun h => ?_⟩, ⟨fun h => ?_, fun h => ?_⟩, ⟨fun h => ?_, fun h => ?_⟩⟩ <;> (by_cases hx : x < 0 <;> by_cases hx2 : x = 0 <;> by_cases hy : y < 0 <;> by_cases hy2 : y = 0 <;> omega)
structure Sg (x y : Int) : Prop where
  neg : x < 0 ↔ y < 0
  zero : x = 0 ↔ y = 0
  pos : x > 0 ↔ y > 0
theorem sg_of {m1 m2 x y : Int} (h : 0 < m1 ∧ 0 < m2 ∧ m1 * x = m2 * y) : Sg x y := by
  obtain ⟨a, b, c⟩ := neg_iff h.1 h.2.1 h.2.2
  exact ⟨a, b, c⟩
theorem sgn_eq {x y : Int} (h : Sg x y) : sgn x = sgn y := by
  unfold sgn
  rw [show decide (x > 0) = decide (y > 0) from decide_eq_decide.mpr h.pos, show decide (x < 0) = decide (y < 0) from decide_eq_decide.mpr h.neg]
theorem by_eq {a b c d e f g h p t : Int} (h0 : p = 0 ↔ t = 0) (hm : a * d = b * c ↔ e * h = f * g) (hs : Sg (S a b c d p) (S e f g h t)) : By a b c d p = By e f g h t := by
  unfold By
  by_cases z : p = 0
  · rw [if_pos z, if_pos (h0.mp z)]
    exact decide_eq_decide.mpr hm
  · rw [if_neg z, if_neg (fun y => z (h0.mpr y))]
    exact decide_eq_decide.mpr hs.zero
theorem alike_of {a b c d e f g h p t : Int} (h0 : p = 0 ↔ t = 0) (hm : a * d = b * c ↔ e * h = f * g) (hs : Sg (S a b c d p) (S e f g h t)) : Alike a b c d p e f g h t := ⟨by_eq h0 hm hs, sgn_eq hs⟩
theorem Sg.symm {x y : Int} (h : Sg x y) : Sg y x := ⟨h.1.symm, h.2.symm, h.3.symm⟩
theorem bs_congr {f g : Int → Bool} (h : ∀ m, f m = g m) : bs f = bs g := by rw [show f = g from funext h]
theorem lst_congr {a b c d e f g h s t : Int} (hs : ∀ m, Sg (S a b c d (s * m)) (S e f g h (t * m))) : lst a b c d s = lst e f g h t := by
  unfold lst
  rw [bs_congr fun m => decide_eq_decide.mpr (hs m).neg]
theorem resS_congr {a b c d e f g h s : Int} (hs : ∀ p, Sg (S a b c d p) (S e f g h p)) : resS a b c d s = resS e f g h s := by
  unfold resS
  rw [lst_congr (s := s) (t := s) (fun m => hs _)]
  by_cases z : S a b c d (s * lst e f g h s) = 0
  · rw [if_pos z, if_pos ((hs _).zero.mp z)]
  · rw [if_neg z, if_neg (fun y => z ((hs _).zero.mpr y))]
theorem res_eq {a b c d : Int} (h : a * d = b * c) : res a b c d = (true, 0) := if_pos h
theorem res_lt {a b c d : Int} (h : a * d < b * c) : res a b c d = resS a b c d 1 := by
  unfold res
  rw [if_neg (show ¬ a * d = b * c by omega), if_pos h]
theorem res_gt {a b c d : Int} (h : b * c < a * d) : res a b c d = resS a b c d (-1) := by
  unfold res
  rw [if_neg (show ¬ a * d = b * c by omega), if_neg (show ¬ a * d < b * c by omega)]
theorem res_congr {a b c d e f g h : Int} (hs : ∀ p, Sg (S a b c d p) (S e f g h p)) (hm : Sg (a * d - b * c) (e * h - f * g)) : res a b c d = res e f g h := by
  obtain ⟨n, z, q⟩ := hm
  rcases Int.lt_trichotomy (a * d) (b * c) with y | y | y
  · rw [res_lt y, res_lt (by have := n.mp (by omega); omega)]
    exact resS_congr hs
  · rw [res_eq y, res_eq (by have := z.mp (by omega); omega)]
  · rw [res_gt y, res_gt (by have := q.mp (by omega); omega)]
    exact resS_congr hs
/-- what is told when all are turned about -/
def opp (r : Bool × Int) : Bool × Int := if r.1 = true then (true, -r.2) else (false, -r.2 - 1)
theorem resS_opp {a b c d e f g h s : Int} (h1 : s = 1 ∨ s = -1) (hs : ∀ p, Sg (S a b c d p) (S e f g h (-p))) : resS e f g h (-s) = opp (resS a b c d s) := by
  have hl : lst e f g h (-s) = lst a b c d s := lst_congr fun m => by
    rw [Int.neg_mul]
    exact (hs (s * m)).symm
  unfold resS
  rw [hl, Int.neg_mul]
  generalize hk : lst a b c d s = k
  by_cases y : S a b c d (s * k) = 0
  · rw [if_pos y, if_pos ((hs _).zero.mp y)]
    rfl
  · rw [if_neg y, if_neg (fun u => y ((hs _).zero.mpr u))]
    show (false, if -s > 0 then k - 1 else -k) = (false, -(if s > 0 then k - 1 else -k) - 1)
    rcases h1 with rfl | rfl
    · rw [if_neg (show ¬ (-1 : Int) > 0 by omega), if_pos (show (1 : Int) > 0 by omega)]; congr 1; omega
    · rw [if_pos (show (- -1 : Int) > 0 by omega), if_neg (show ¬ (-1 : Int) > 0 by omega)]; congr 1; omega
theorem res_opp {a b c d e f g h : Int} (hs : ∀ p, Sg (S a b c d p) (S e f g h (-p))) (hm : Sg (a * d - b * c) (f * g - e * h)) : res e f g h = opp (res a b c d) := by
  obtain ⟨n, z, q⟩ := hm
  rcases Int.lt_trichotomy (a * d) (b * c) with y | y | y
  · rw [res_lt y, res_gt (by have := n.mp (by omega); omega)]
    exact resS_opp (.inl rfl) hs
  · rw [res_eq y, res_eq (by have := z.mp (by omega); omega)]
    rfl
  · rw [res_gt y, res_lt (by have := q.mp (by omega); omega)]
    exact resS_opp (.inr rfl) hs
theorem sg_scale {k : Int} (hk : 0 < k) (a b c d p : Int) : Sg (S (k * a) (k * b) (k * c) (k * d) p) (S a b c d p) := by
  obtain ⟨m1, m2, h⟩ := S_scale hk a b c d p
  exact sg_of h
theorem sg_scale2 {k : Int} (hk : 0 < k) (a b c d : Int) : Sg (k * a * (k * d) - k * b * (k * c)) (a * d - b * c) := by
  refine sg_of (m1 := 1) (m2 := k * k) ⟨by omega, Int.mul_pos hk hk, ?_⟩
  rw [Int.one_mul, Int.mul_sub, show k * a * (k * d) = k * k * (a * d) by ac_rfl, show k * b * (k * c) = k * k * (b * c) by ac_rfl]
theorem res_scale {k : Int} (hk : 0 < k) (a b c d : Int) : res (k * a) (k * b) (k * c) (k * d) = res a b c d := res_congr (fun p => sg_scale hk a b c d p) (sg_scale2 hk a b c d)
theorem alike_scale {k : Int} (hk : 0 < k) (a b c d p : Int) : Alike a b c d p (k * a) (k * b) (k * c) (k * d) p :=
  alike_of Iff.rfl (by have := (sg_scale2 hk a b c d).zero; omega) (sg_scale hk a b c d p).symm
theorem pow_inj {x y : Int} {k : Nat} (hx : 0 ≤ x) (hy : 0 ≤ y) (hk : 0 < k) : x = y ↔ x ^ k = y ^ k := by
  obtain ⟨m, rfl⟩ := Int.eq_ofNat_of_zero_le hx
  obtain ⟨n, rfl⟩ := Int.eq_ofNat_of_zero_le hy
  constructor
  · intro h; rw [h]
  · intro h
    have h2 : m ^ k = n ^ k := by exact_mod_cast h
    have := (Nat.pow_left_inj (by omega)).mp h2
    omega
theorem alike_pow {k : Nat} (hk : 0 < k) {a b c d : Int} (o : Ok4 a b c d) (p : Int) : Alike (a ^ k) (b ^ k) (c ^ k) (d ^ k) p a b c d (p * k) := by
  refine alike_of ?_ ?_ ?_
  · constructor
    · intro h; rw [h, Int.zero_mul]
    · intro h
      rcases Int.mul_eq_zero.mp h with h | h
      · exact h
      · omega
  · rw [← Int.mul_pow, ← Int.mul_pow]
    obtain ⟨ha, hb, hc, hd⟩ := o
    exact (pow_inj (Int.mul_nonneg (by omega) (by omega)) (Int.mul_nonneg (by omega) (by omega)) hk).symm
  · rw [S_pow hk]
    exact ⟨Iff.rfl, Iff.rfl, Iff.rfl⟩
/-- four numbers and what they leave of w -/
structure Inv4 (w a b c d a' b' c' d' : Int) : Prop where
  ha : a * a' = w
  hb : b * b' = w
  hc : c * c' = w
  hd : d * d' = w
  pa : 0 < a
  pb : 0 < b
  pc : 0 < c
  pd : 0 < d
  pw : 0 < w
theorem Inv4.sg {w a b c d a' b' c' d' : Int} (v : Inv4 w a b c d a' b' c' d') (p : Int) : Sg (S a b c d p) (S a' b' c' d' (-p)) := by
  obtain ⟨m1, m2, h⟩ := S_inv v.pw v.ha v.hb v.hc v.hd v.pa v.pb v.pc v.pd p
  exact (sg_of h).symm
theorem Inv4.mid {w a b c d a' b' c' d' : Int} (v : Inv4 w a b c d a' b' c' d') : Sg (a * d - b * c) (b' * c' - a' * d') := by
  refine sg_of (m1 := w * w) (m2 := a * b * c * d) ⟨Int.mul_pos v.pw v.pw, Int.mul_pos (Int.mul_pos (Int.mul_pos v.pa v.pb) v.pc) v.pd, ?_⟩
  rw [Int.mul_sub, Int.mul_sub]
  congr 1
  · rw [show w * w = b * b' * (c * c') by rw [v.hb, v.hc]]; ac_rfl
  · rw [show w * w = a * a' * (d * d') by rw [v.ha, v.hd]]; ac_rfl
theorem Inv4.alike {w a b c d a' b' c' d' : Int} (v : Inv4 w a b c d a' b' c' d') (p : Int) : Alike a b c d p a' b' c' d' (-p) := by
  refine alike_of ?_ ?_ (v.sg p)
  · constructor <;> intro h <;> omega
  · have := v.mid.zero; omega
theorem S_rev (a b c d p : Int) : S d c b a p = S a b c d p := by
  unfold S
  rw [show c * b * a = a * b * c by ac_rfl, show d * c * b = b * c * d by ac_rfl, show d * b * a = a * b * d by ac_rfl, show d * c * a = a * c * d by ac_rfl]
  split <;> omega
theorem Inv4.res {w a b c d a' b' c' d' : Int} (v : Inv4 w a b c d a' b' c' d') : res d' c' b' a' = opp (res a b c d) := by
  refine res_opp (fun p => ?_) ?_
  · rw [S_rev a' b' c' d' (-p)]; exact v.sg p
  · rw [Int.mul_comm c' b', Int.mul_comm d' a']; exact v.mid
theorem Inv4.grow {w a b c d a' b' c' d' : Int} (v : Inv4 w a b c d a' b' c' d') (h1 : a < b) (h2 : b ≤ c) (h3 : c < d) (hw : w ≤ 99) : Grow d' c' b' a' := by
  obtain ⟨ha, hb, hc, hd, pa, pb, pc, pd, pw⟩ := v
  have pos : ∀ {x y : Int}, 0 < x → x * y = w → 0 < y := fun {x y} hx h => by
    rcases Int.lt_trichotomy y 0 with z | z | z
    · have := Int.mul_neg_of_pos_of_neg hx z; omega
    · rw [z, Int.mul_zero] at h; omega
    · exact z
  have mono : ∀ {x y x' y' : Int}, 0 < x → x * x' = w → y * y' = w → 0 < y → x < y → y' < x' := fun {x y x' y'} hx h h' hy l => by
    have py := pos hy h'
    rcases Int.lt_or_le y' x' with z | z
    · exact z
    · have e1 : x * x' ≤ x * y' := Int.mul_le_mul_of_nonneg_left z (by omega)
      have e2 : x * y' < y * y' := Int.mul_lt_mul_of_pos_right l py
      omega
  have pd' := pos pd hd
  have pa' := pos pa ha
  refine ⟨pd', mono pc hc hd pd h3, ?_, mono pa ha hb pb h1, ?_⟩
  · rcases Int.lt_or_eq_of_le h2 with z | z
    · exact Int.le_of_lt (mono pb hb hc pc z)
    · subst z
      have : b * c' = b * b' := by rw [hb, hc]
      exact Int.le_of_eq (Int.eq_of_mul_eq_mul_left (by omega) this)
  · have : 1 * a' ≤ a * a' := Int.mul_le_mul_of_nonneg_right (by omega) (by omega)
    omega
def chk (k m : Nat) : Bool := (List.range m).all fun a => (List.range m).all fun b => if a < b then (List.range m).all fun c => if b ≤ c then (List.range m).all fun d => if c < d then
  (if 1 ≤ a then decide (res ((a : Int) ^ k) ((b : Int) ^ k) ((c : Int) ^ k) ((d : Int) ^ k) = dvd (res a b c d) k) else true) else true else true else true
theorem chk2 : chk 2 10 = true := by decide +kernel
theorem chk3 : chk 3 5 = true := by decide +kernel
theorem chk_at {k m : Nat} (h : chk k m = true) {a b c d : Int} (g : Grn (m - 1) a b c d) : res (a ^ k) (b ^ k) (c ^ k) (d ^ k) = dvd (res a b c d) k := by
  obtain ⟨g1, g2, g3, g4, g5⟩ := g
  obtain ⟨a, rfl⟩ := Int.eq_ofNat_of_zero_le (show 0 ≤ a by omega)
  obtain ⟨b, rfl⟩ := Int.eq_ofNat_of_zero_le (show 0 ≤ b by omega)
  obtain ⟨c, rfl⟩ := Int.eq_ofNat_of_zero_le (show 0 ≤ c by omega)
  obtain ⟨d, rfl⟩ := Int.eq_ofNat_of_zero_le (show 0 ≤ d by omega)
  unfold chk at h
  have h1 := List.all_eq_true.mp (List.all_eq_true.mp h a (List.mem_range.mpr (by omega))) b (List.mem_range.mpr (by omega))
  rw [if_pos (by omega)] at h1
  have h2 := List.all_eq_true.mp h1 c (List.mem_range.mpr (by omega))
  rw [if_pos (by omega)] at h2
  have h3 := List.all_eq_true.mp h2 d (List.mem_range.mpr (by omega))
  rw [if_pos (by omega), if_pos (by omega)] at h3
  exact of_decide_eq_true h3
theorem shp (p : Int) : SeqAt.shaped (.tuple [.int p]) = true := rfl
theorem eqvp (p : Int) : PyData.eqv (.tuple [.int p]) (.tuple [.int p]) = true := by simp [PyData.eqv, PyData.eqvAll]
/-- two papers that tell the same are equal -/
theorem eqo_ {T : Tx P K mg} {neg : Bool} {x y : Addr} {r : Bool × Int} {H : Hp} {Q : VK} (hx : Res T H x r) (hy : Res T H y r) (q : Q (.bl (!neg)) H) : HP.rEqO neg K T.f_Paper_eq (sp_Paper_eq T) (.ref x) (.ref y) H Q := by
  obtain ⟨b, p⟩ := r
  have fin : ∀ nm w : Str, (decide (nm = nm) && (decide (w = w) && PyData.eqv (.tuple [.int p]) (.tuple [.int p]))) = true := fun nm w => by rw [decide_eq_true rfl, decide_eq_true rfl, eqvp]; rfl
  have q2 : Q (.bl (if neg then !true else true)) H := by cases neg <;> exact q
  cases b with
  | false =>
    have h1 : HC.Pap K H x T.C_Between "between" (.tuple [.int p]) [("low", .int p)] := hx
    have h2 : HC.Pap K H y T.C_Between "between" (.tuple [.int p]) [("low", .int p)] := hy
    obtain ⟨dx, t, e1, _⟩ := id h1
    obtain ⟨dy, u, e2, _⟩ := id h2
    refine ⟨x, y, _, dx, _, _, dy, _, rfl, rfl, e1, e2, T.eq_Between_Between, x, y, _, _, _, _, _, _, _, _, _, _, rfl, h1, h2, T.pc_Between, T.pc_Between, shp p, shp p, _, rfl, ?_⟩
    rw [fin]
    exact q2
  | true =>
    have h1 : HC.Pap K H x T.C_ByPower "bypower" (.tuple [.int p]) [("power", .int p)] := hx
    have h2 : HC.Pap K H y T.C_ByPower "bypower" (.tuple [.int p]) [("power", .int p)] := hy
    obtain ⟨dx, t, e1, _⟩ := id h1
    obtain ⟨dy, u, e2, _⟩ := id h2
    refine ⟨x, y, _, dx, _, _, dy, _, rfl, rfl, e1, e2, T.eq_ByPower_ByPower, x, y, _, _, _, _, _, _, _, _, _, _, rfl, h1, h2, T.pc_ByPower, T.pc_ByPower, shp p, shp p, _, rfl, ?_⟩
    rw [fin]
    exact q2
theorem div99 {k : Int} (h : 1 ≤ k ∧ k ≤ 24) : 4 ≤ 99 / k ∧ 99 / k ≤ 99 ∧ k * (99 / k) ≤ 99 := by
  have h3 := Int.mul_ediv_self_le (x := 99) (k := k) (by omega)
  refine ⟨Int.le_ediv_of_mul_le (by omega) (by omega), Int.ediv_le_self _ (by omega), h3⟩
theorem Grn.scale {k m a b c d : Int} (hk : 1 ≤ k) (g : Grn m a b c d) (hm : k * m ≤ 99) : Grow (k * a) (k * b) (k * c) (k * d) := by
  obtain ⟨g1, g2, g3, g4, g5⟩ := g
  have e1 : k * 1 ≤ k * a := Int.mul_le_mul_of_nonneg_left g1 (by omega)
  have e5 : k * d ≤ k * m := Int.mul_le_mul_of_nonneg_left g5 (by omega)
  exact ⟨by omega, Int.mul_lt_mul_of_pos_left g2 (by omega), Int.mul_le_mul_of_nonneg_left g3 (by omega), Int.mul_lt_mul_of_pos_left g4 (by omega), by omega⟩
theorem Grn.grow {m a b c d : Int} (g : Grn m a b c d) (hm : m ≤ 99) : Grow a b c d := ⟨g.g1, g.g2, g.g3, g.g4, Int.le_trans g.g5 hm⟩
def mulV (k : Int) : V → V
  | .int i => .int (k * i)
  | v => v
theorem four_at {a b c d : Int} (g : Grow a b c d) {i : Nat} {x : V} (h : [V.int a, V.int b, V.int c, V.int d][i]? = some x) : ∃ y : Int, x = .int y ∧ 1 ≤ y ∧ y ≤ 99 := by
  obtain ⟨g1, g2, g3, g4, g5⟩ := g
  match i, h with
  | 0, h => cases h; exact ⟨_, rfl, by omega, by omega⟩
  | 1, h => cases h; exact ⟨_, rfl, by omega, by omega⟩
  | 2, h => cases h; exact ⟨_, rfl, by omega, by omega⟩
  | 3, h => cases h; exact ⟨_, rfl, by omega, by omega⟩
theorem use_ixL {p : Addr} {xs : List V} {i : Int} {v : V} {H : Hp} {Q : VK} (h : H p = some (.lst xs)) (e : atI xs i = some v) (q : Q v H) : rIx K (.ref p) (.int i) H Q := HX.ixL_ (SqL.of h) e q
local macro_rules | `(tactic| walk_at "hu") => `(tactic| ((with_reducible refine' use_ixL ?h ?e ?_); (case h => assumption); (case e => rfl)))
def sp__law_times_right (K : PySem.W.Frag) : Sp := fun vs H Q _ => ∃ (g k : Addr) (ns : List Int) (n : Nat), vs = [.ref g] ∧ Hat H g k ns n ∧ n ≤ 1000 ∧ ∀ H', Kept g H H' → Hat H' g k ns (n + 20) → Q (.bl true) H'
theorem ok__law_times_right (T : Tx P K mg) : FnOk P w K mg base CX0 8 T.f__law_times_right T.fd__law_times_right ["hat"] (sp__law_times_right K) := by
  refine T.F__law_times_right.ok sc__law_times_right (fun vs H Q E h => ?_) (fun cdv A outer s H vs Q E hr h => ?_)
  · obtain ⟨g, k, ns, n, rfl, hh, hn, q⟩ := h; rfl
  obtain ⟨g, k, ns, n, rfl, hh, hn, q⟩ := h
  refine ⟨_, (pss_cons (ps_set (i := 1) sc__law_times_right.nd rfl (by first | exact .inl rfl | exact .inr rfl) (pe_op (op_addK (K := K)) pe_int (pe_call (ok__law_lot T) (hr.mono (by decide)) (by rfl) T.g__law_lot T.F__law_lot.kp T.b__law_lot .nil pass0 (pa_cons (pv 0) (pa_cons (pe_call (ok__law_one T) (hr.mono (by decide)) (by rfl) T.g__law_one T.F__law_one.kp T.b__law_one .nil pass0 (pa_cons (pv 0) (pa_cons (pe_lst (pa_cons pe_int (pa_cons pe_int (pa_cons pe_int pa_nil)))) pa_nil))) pa_nil)))))
      (pss_cons (ps_set (i := 2) sc__law_times_right.nd rfl (by first | exact .inl rfl | exact .inr rfl) (pe_call (ok__law_grown T) (hr.mono (by decide)) (by rfl) T.g__law_grown T.F__law_grown.kp T.b__law_grown .nil pass0 (pa_cons (pv 0) (pa_cons (pe_op op_fdivU pe_int (pv 1)) pa_nil))))
      (pss_cons (ps_setLc (i := 4) (own := [("number", 3)]) (g := gName 3) (tt := tYes) (by rfl) sc__law_times_right.nd rfl rfl (sw_true rfl rfl rfl (by decide +kernel)) (pi_listK (K := K) (pv 2)) (blkOk_by (own := [("number", 3)]) (N := n__law_times_right) (sc := defScope s__law_times_right) (by decide +kernel)) (fun _ _ _ _ _ => (pg_name (i := 3) sc__law_times_right.nd rfl (by first | exact .inl rfl | exact .inr rfl))) (fun _ _ _ _ _ => pts_nil) (fun _ _ _ _ _ => (pe_op op_mulU (pv 1) (pv 3))))
      (pss_cons (ps_if (pt_cmpR (HP.op_neO (K := K) (ok_Paper_eq T) T.b_Paper_eq (hr.mono (by decide))) (pe_call (ok_power_of T) (hr.mono (by decide)) (by rfl) T.g_power_of T.F_power_of.kp T.b_power_of .nil pass0 (pa_cons (pe_ix (ix_K (K := K)) (pv 2) pe_int (fun _ _ => rfl)) (pa_cons (pe_ix (ix_K (K := K)) (pv 2) pe_int (fun _ _ => rfl)) (pa_cons (pe_ix (ix_K (K := K)) (pv 2) pe_int (fun _ _ => rfl)) (pa_cons (pe_ix (ix_K (K := K)) (pv 2) pe_int (fun _ _ => rfl)) pa_nil))))) (pe_call (ok_power_of T) (hr.mono (by decide)) (by rfl) T.g_power_of T.F_power_of.kp T.b_power_of .nil pass0 (pa_cons (pe_ix (ix_K (K := K)) (pv 4) pe_int (fun _ _ => rfl)) (pa_cons (pe_ix (ix_K (K := K)) (pv 4) pe_int (fun _ _ => rfl)) (pa_cons (pe_ix (ix_K (K := K)) (pv 4) pe_int (fun _ _ => rfl)) (pa_cons (pe_ix (ix_K (K := K)) (pv 4) pe_int (fun _ _ => rfl)) pa_nil))))) (nomark _)) (pss_one (ps_ret pe_bl)) pss_nil)
      (pss_cons (ps_par (i := 6) (j := 7) (by rfl) sc__law_times_right.nd rfl rfl (by decide) rfl rfl (pa_cons (pe_lc (own := [("turn", 5)]) (g := gName 5) (tt := tYes) (by rfl) sc__law_times_right.nd (pi_range1 (by rfl) T.z_range (pa_cons pe_int pa_nil)) (blkOk_by (own := [("turn", 5)]) (N := n__law_times_right) (sc := defScope s__law_times_right) (by decide +kernel)) (fun _ _ _ _ _ => (pg_name (i := 5) sc__law_times_right.nd rfl (by first | exact .inl rfl | exact .inr rfl))) (fun _ _ _ _ _ => pts_nil) (fun _ _ _ _ _ => (pe_op (op_addK (K := K)) pe_int (pe_call (ok__law_lot T) (hr.mono (by decide)) (by rfl) T.g__law_lot T.F__law_lot.kp T.b__law_lot .nil pass0 (pa_cons (pv 0) (pa_cons pe_int pa_nil)))))) (pa_cons (pe_call (ok__law_power T) (hr.mono (by decide)) (by rfl) T.g__law_power T.F__law_power.kp T.b__law_power .nil pass0 (pa_cons (pv 0) pa_nil)) pa_nil)) (by rfl))
      (pss_cons (ps_set (i := 8) sc__law_times_right.nd rfl (by first | exact .inl rfl | exact .inr rfl) (pe_op (op_addK (K := K)) pe_int (pe_call (ok__law_lot T) (hr.mono (by decide)) (by rfl) T.g__law_lot T.F__law_lot.kp T.b__law_lot .nil pass0 (pa_cons (pv 0) (pa_cons pe_int pa_nil)))))
      (pss_one (ps_ret (pe_and (pe_call (ok__law_same T) (hr.mono (by decide)) (by rfl) T.g__law_same T.F__law_same.kp T.b__law_same .nil pass0 (pa_cons (pv 2) (pa_cons (pv 4) (pa_cons (pv 7) (pa_cons (pv 7) pa_nil))))) (pe_one (pe_call (ok__law_same T) (hr.mono (by decide)) (by rfl) T.g__law_same T.F__law_same.kp T.b__law_same .nil pass0 (pa_cons (pv 6) (pa_cons (pe_lc (own := [("number", 3)]) (g := gName 3) (tt := tYes) (by rfl) sc__law_times_right.nd (pi_listK (K := K) (pv 6)) (blkOk_by (own := [("number", 3)]) (N := n__law_times_right) (sc := defScope s__law_times_right) (by decide +kernel)) (fun _ _ _ _ _ => (pg_name (i := 3) sc__law_times_right.nd rfl (by first | exact .inl rfl | exact .inr rfl))) (fun _ _ _ _ _ => pts_nil) (fun _ _ _ _ _ => (pe_op op_mulU (pv 8) (pv 3)))) (pa_cons (pv 7) (pa_cons (pv 7) pa_nil))))))))))))))), ?_⟩
  refine HX.start_ (σ := [some (.ref g : V), none, none, none, none, none, none, none, none]) rfl ?_
  walk_at "hr"
  intro p hp
  refine use_one (E := E0) (hh.new hp) (by omega) (SqL.of upd_same) (hh.na hp) ⟨by show 0 < 3; omega, by show 3 ≤ 1000; omega⟩ fun v H1 hv k1 h1 => ?_
  have hv2 : ∃ z : Int, v = .int z ∧ 4 ≤ z ∧ z ≤ 24 := by
    simp only [List.mem_cons, List.mem_nil_iff, or_false] at hv
    rcases hv with rfl | rfl | rfl <;> exact ⟨_, rfl, by omega, by omega⟩
  obtain ⟨z, rfl, z1, z2⟩ := hv2
  have k1 := (kept_new (Kept.refl g H) hp).trans k1
  walk_at "hr"
  intro d1 H2 b1 b1' k2 h2
  have hd := div99 (k := 1 + d1) (by omega)
  walk_at "hr"
  intro pf H3 a b c d k3 h3 hf hfg gr
  have gg := gr.grow hd.2.1
  have gw := gr.scale (k := 1 + d1) (by omega) hd.2.2
  walk_at "hr"
  refine ⟨pf, rfl, ⟨_, SqL.of hf⟩, ?_⟩
  intro D hD
  refine HX.lcLp (mulV (1 + d1)) (SqL.of hf) hD rfl (fun _ => rfl) (fun i x H' R hx e kk => ?_) (fun H4 e4 hL => ?_)
  · obtain ⟨y, rfl, y0, y1⟩ := four_at gg hx
    walk_at "hw"
    walk_at "hr"
    exact kk _ (Same.refl _)
  have hf4 := e4 _ _ hf
  have h4 := h3.same e4
  have k4 := ((k1.trans k2).trans k3).trans (kept_same e4)
  have hDg : D ≠ g := h3.na hD
  clear e4 hD hf h3 k3 k1 k2 h1 h2
  simp only [List.map_cons, List.map_nil, mulV] at hL
  have kp : 0 < 1 + d1 := by omega
  have er : res ((1 + d1) * a) ((1 + d1) * b) ((1 + d1) * c) ((1 + d1) * d) = res a b c d := res_scale kp a b c d
  walk_at "hr"
  refine use_power_of (E := E0) gg fun x1 H5 e5 r1 => ?_
  have hf5 := e5 _ _ hf4
  have hL5 := e5 _ _ hL
  walk_at "hr"
  refine use_power_of (E := E0) gw fun x2 H6 e6 r2 => ?_
  rw [er] at r2
  refine eqo_ (r1.same e6) r2 ?_
  walk_at "hr"
  have h6 := (h4.same e5).same e6
  have k6 := (k4.trans (kept_same e5)).trans (kept_same e6)
  have hf6 := e6 _ _ hf5
  have hL6 := e6 _ _ hL5
  clear r1 r2 e5 e6 hf5 hL5 h4 k4 hf4 hL hv
  walk_at "hr"
  refine ⟨by omega, by omega, ?_⟩
  intro D2 hD2
  refine HX.lcRd (dn := 1) (fun i ys => ∀ y ∈ ys, ∃ z : Int, y = .int z ∧ 1 ≤ z ∧ z ≤ 10000) h6 hD2 (by decide) (fun _ => rfl) (fun _ h => nomatch h) ?_ ?_
  · intro i ys H' R hi hy r k h cont
    walk_at "hw"
    have hi4 : i < 4 := hi
    walk_at "hr"
    intro d H2 b b' k2 h2
    walk_at "hr"
    refine cont _ _ k2 (h2.mono (by omega)) ?_
    intro y hyy
    rcases List.mem_append.mp hyy with z | z
    · exact r y z
    · rw [List.mem_singleton] at z
      exact ⟨_, z, by omega, by omega⟩
  intro ys H7 hl r k7 h7 hL7
  have hl4 : ys.length = 4 := hl
  have hD2g : D2 ≠ g := h6.na hD2
  have hf7 := k7 _ _ hfg hf6
  have hw7 := k7 _ _ hDg hL6
  have kk7 := k6.trans k7
  match ys, hl4 with
  | [y1, y2, y3, y4], _ =>
  obtain ⟨u1, rfl, _, _⟩ := r y1 (by simp)
  obtain ⟨u2, rfl, _, _⟩ := r y2 (by simp)
  obtain ⟨u3, rfl, _, _⟩ := r y3 (by simp)
  obtain ⟨u4, rfl, _, _⟩ := r y4 (by simp)
  clear r h6 k6 k7 hf6 hL6 hD2
  have h7' : Hat H7 g k ns (n + 10) := h7.mono (show n + 1 + 1 + 4 + 1 * (4 : Int).toNat ≤ n + 10 from by show n + 1 + 1 + 4 + 1 * 4 ≤ n + 10; omega)
  clear h7
  walk_at "hr"
  intro pw H8 pw1 pw2 k8 h8
  have hf8 := k8 _ _ hfg hf7
  have hw8 := k8 _ _ hDg hw7
  have hr8 := k8 _ _ hD2g hL7
  have kk8 := kk7.trans k8
  clear kk7 k8 hf7 hw7 hL7 h7'
  walk_at "hr"
  intro tm H9 tm1 tm2 k9 h9
  have hf9 := k9 _ _ hfg hf8
  have hw9 := k9 _ _ hDg hw8
  have hr9 := k9 _ _ hD2g hr8
  have kk9 := kk8.trans k9
  clear kk8 k9 hf8 hw8 hr8 h8
  walk_at "hr"
  refine use_same (E := E0) (SqL.of hf9) (SqL.of hw9) gg.ok4 gw.ok4 ⟨pw1, pw2⟩ ⟨pw1, pw2⟩ (alike_scale kp a b c d pw) fun H10 e10 => ?_
  walk_at "hr"
  refine ⟨D2, rfl, ⟨_, SqL.of (e10 _ _ hr9)⟩, ?_⟩
  intro D3 hD3
  refine HX.lcLp (mulV (1 + tm)) (SqL.of (e10 _ _ hr9)) hD3 rfl (fun _ => rfl) (fun i x H' R hx e kk => ?_) (fun H11 e11 hL11 => ?_)
  · have hx2 : ∃ z : Int, x = .int z ∧ 1 ≤ z ∧ z ≤ 10000 := by
      match i, hx with
      | 0, hx => cases hx; exact ⟨_, rfl, by omega, by omega⟩
      | 1, hx => cases hx; exact ⟨_, rfl, by omega, by omega⟩
      | 2, hx => cases hx; exact ⟨_, rfl, by omega, by omega⟩
      | 3, hx => cases hx; exact ⟨_, rfl, by omega, by omega⟩
    obtain ⟨z, rfl, _, _⟩ := hx2
    walk_at "hw"
    walk_at "hr"
    exact kk _ (Same.refl _)
  simp only [List.map_cons, List.map_nil, mulV] at hL11
  have bnd : ∀ x : Int, 1 ≤ x → x ≤ 10000 → 1 ≤ (1 + tm) * x ∧ (1 + tm) * x ≤ 1000000 := fun x x1 x2 => by
    have := prod2_bd (x := 1 + tm) (y := x) (m := 99) (n := 10000) (by omega) (by omega)
    have := Int.mul_pos (show (0 : Int) < 1 + tm by omega) (show (0 : Int) < x by omega)
    omega
  walk_at "hr"
  refine use_same (E := E0) (SqL.of (e11 _ _ (e10 _ _ hr9))) (SqL.of hL11) ⟨by omega, by omega, by omega, by omega⟩ ⟨bnd _ (by omega) (by omega), bnd _ (by omega) (by omega), bnd _ (by omega) (by omega), bnd _ (by omega) (by omega)⟩ ⟨pw1, pw2⟩ ⟨pw1, pw2⟩ (alike_scale (by omega) u1 u2 u3 u4 pw) fun H12 e12 => ?_
  exact q _ (((kk9.trans (kept_same e10)).trans (kept_same e11)).trans (kept_same e12)) ((((h9.same e10).same e11).same e12).mono (by omega))
theorem pow_bd {y m M : Int} {k : Nat} (h1 : 1 ≤ y) (h2 : y ≤ m) (hM : m ^ k ≤ M) : 1 ≤ y ^ k ∧ y ^ k ≤ M := by
  obtain ⟨y, rfl⟩ := Int.eq_ofNat_of_zero_le (show 0 ≤ y by omega)
  obtain ⟨m, rfl⟩ := Int.eq_ofNat_of_zero_le (show 0 ≤ m by omega)
  have e1 : y ^ k ≤ m ^ k := Nat.pow_le_pow_left (by omega) k
  have e2 : 0 < y ^ k := Nat.pow_pos (by omega)
  have e3 : ((y ^ k : Nat) : Int) ≤ ((m ^ k : Nat) : Int) := by omega
  have e4 : (1 : Int) ≤ ((y ^ k : Nat) : Int) := by omega
  rw [Int.natCast_pow] at e3 e4
  rw [Int.natCast_pow] at e3
  exact ⟨e4, Int.le_trans e3 hM⟩
theorem pow_lt {x y : Int} {k : Nat} (hx : 0 ≤ x) (h : x < y) (hk : 0 < k) : x ^ k < y ^ k := by
  obtain ⟨x, rfl⟩ := Int.eq_ofNat_of_zero_le hx
  obtain ⟨y, rfl⟩ := Int.eq_ofNat_of_zero_le (show 0 ≤ y by omega)
  have e1 : x ^ k < y ^ k := Nat.pow_lt_pow_left (by omega) (by omega)
  have e3 : ((x ^ k : Nat) : Int) < ((y ^ k : Nat) : Int) := by omega
  rw [Int.natCast_pow, Int.natCast_pow] at e3
  exact e3
theorem pow_le {x y : Int} {k : Nat} (hx : 0 ≤ x) (h : x ≤ y) (hk : 0 < k) : x ^ k ≤ y ^ k := by
  rcases Int.lt_or_eq_of_le h with z | z
  · exact Int.le_of_lt (pow_lt hx z hk)
  · rw [z]; exact Int.le_refl _
theorem Grn.pow {m a b c d : Int} {k : Nat} (g : Grn m a b c d) (hk : 0 < k) (hm : m ^ k ≤ 99) : Grow (a ^ k) (b ^ k) (c ^ k) (d ^ k) := by
  obtain ⟨g1, g2, g3, g4, g5⟩ := g
  exact ⟨(pow_bd g1 (show a ≤ m by omega) hm).1, pow_lt (by omega) g2 hk, pow_le (by omega) g3 hk, pow_lt (by omega) g4 hk, (pow_bd (show 1 ≤ d by omega) g5 hm).2⟩
theorem Grn.ok4 {m a b c d : Int} {k : Nat} (g : Grn m a b c d) (hm : m ^ k ≤ 1000000) : Ok4 (a ^ k) (b ^ k) (c ^ k) (d ^ k) := by
  obtain ⟨g1, g2, g3, g4, g5⟩ := g
  exact ⟨pow_bd (by omega) (show a ≤ m by omega) hm, pow_bd (by omega) (show b ≤ m by omega) hm, pow_bd (by omega) (show c ≤ m by omega) hm, pow_bd (by omega) (show d ≤ m by omega) hm⟩
theorem grn_at {m a b c d : Int} (g : Grn m a b c d) {i : Nat} {x : V} (h : [V.int a, V.int b, V.int c, V.int d][i]? = some x) : ∃ y : Int, x = .int y ∧ 1 ≤ y ∧ y ≤ m := by
  obtain ⟨g1, g2, g3, g4, g5⟩ := g
  match i, h with
  | 0, h => cases h; exact ⟨_, rfl, by omega, by omega⟩
  | 1, h => cases h; exact ⟨_, rfl, by omega, by omega⟩
  | 2, h => cases h; exact ⟨_, rfl, by omega, by omega⟩
  | 3, h => cases h; exact ⟨_, rfl, by omega, by omega⟩
theorem div80 {k : Int} (h : 2 ≤ k ∧ k ≤ 6) : 13 ≤ 80 / k ∧ 80 / k ≤ 40 ∧ k * (80 / k) ≤ 80 := by
  have h3 := Int.mul_ediv_self_le (x := 80) (k := k) (by omega)
  refine ⟨Int.le_ediv_of_mul_le (by omega) (by omega), ?_, h3⟩
  have : 80 / k * 2 ≤ 80 / k * k := Int.mul_le_mul_of_nonneg_left h.1 (Int.ediv_nonneg (by omega) (by omega))
  rw [Int.mul_comm] at h3
  omega
def mosts : List V := [.int 0, .int 0, .int 31, .int 31, .int 31, .int 15, .int 9]
theorem most_at {k : Nat} (h : 2 ≤ k ∧ k ≤ 6) : ∃ m : Int, atI mosts (k : Int) = some (.int m) ∧ (9 ≤ m ∧ m ≤ 31) ∧ m ^ k ≤ 1000000 := by
  have hk : k = 2 ∨ k = 3 ∨ k = 4 ∨ k = 5 ∨ k = 6 := by omega
  rcases hk with rfl | rfl | rfl | rfl | rfl
  · exact ⟨31, rfl, by omega, by decide⟩
  · exact ⟨31, rfl, by omega, by decide⟩
  · exact ⟨31, rfl, by omega, by decide⟩
  · exact ⟨15, rfl, by omega, by decide⟩
  · exact ⟨9, rfl, by omega, by decide⟩
def sp__law_powers_right (K : PySem.W.Frag) : Sp := fun vs H Q _ => ∃ (g k : Addr) (ns : List Int) (n : Nat), vs = [.ref g] ∧ Hat H g k ns n ∧ n ≤ 1000 ∧ ∀ H', Kept g H H' → Hat H' g k ns (n + 20) → Q (.bl true) H'
theorem ok__law_powers_right (T : Tx P K mg) : FnOk P w K mg base CX0 8 T.f__law_powers_right T.fd__law_powers_right ["hat"] (sp__law_powers_right K) := by
  refine T.F__law_powers_right.ok sc__law_powers_right (fun vs H Q E h => ?_) (fun cdv A outer s H vs Q E hr h => ?_)
  · obtain ⟨g, k, ns, n, rfl, hh, hn, q⟩ := h; rfl
  obtain ⟨g, k, ns, n, rfl, hh, hn, q⟩ := h
  refine ⟨_, (pss_cons (ps_set (i := 1) sc__law_powers_right.nd rfl (by first | exact .inl rfl | exact .inr rfl) (pe_op (op_addK (K := K)) pe_int (pe_call (ok__law_lot T) (hr.mono (by decide)) (by rfl) T.g__law_lot T.F__law_lot.kp T.b__law_lot .nil pass0 (pa_cons (pv 0) (pa_cons pe_int pa_nil)))))
      (pss_cons (ps_set (i := 2) sc__law_powers_right.nd rfl (by first | exact .inl rfl | exact .inr rfl) (pe_call (ok__law_grown T) (hr.mono (by decide)) (by rfl) T.g__law_grown T.F__law_grown.kp T.b__law_grown .nil pass0 (pa_cons (pv 0) (pa_cons (pe_ix (ix_K (K := K)) (pe_lst (pa_cons pe_int (pa_cons pe_int (pa_cons pe_int (pa_cons pe_int (pa_cons pe_int (pa_cons pe_int (pa_cons pe_int pa_nil)))))))) (pv 1) (fun _ _ => rfl)) pa_nil))))
      (pss_cons (ps_setLc (i := 4) (own := [("number", 3)]) (g := gName 3) (tt := tYes) (by rfl) sc__law_powers_right.nd rfl rfl (sw_true rfl rfl rfl (by decide +kernel)) (pi_listK (K := K) (pv 2)) (blkOk_by (own := [("number", 3)]) (N := n__law_powers_right) (sc := defScope s__law_powers_right) (by decide +kernel)) (fun _ _ _ _ _ => (pg_name (i := 3) sc__law_powers_right.nd rfl (by first | exact .inl rfl | exact .inr rfl))) (fun _ _ _ _ _ => pts_nil) (fun _ _ _ _ _ => (pe_call (ok__law_raised T) (hr.mono (by decide)) (by rfl) T.g__law_raised T.F__law_raised.kp T.b__law_raised .nil pass0 (pa_cons (pv 3) (pa_cons (pv 1) pa_nil)))))
      (pss_cons (ps_set (i := 5) sc__law_powers_right.nd rfl (by first | exact .inl rfl | exact .inr rfl) (pe_op op_sub (pe_call (ok__law_lot T) (hr.mono (by decide)) (by rfl) T.g__law_lot T.F__law_lot.kp T.b__law_lot .nil pass0 (pa_cons (pv 0) (pa_cons (pe_op (op_addK (K := K)) (pe_op op_mulU pe_int (pe_op op_fdivU pe_int (pv 1))) pe_int) pa_nil))) (pe_op op_fdivU pe_int (pv 1))))
      (pss_cons (ps_if (pt_not (pt_val (pe_call (ok__law_same T) (hr.mono (by decide)) (by rfl) T.g__law_same T.F__law_same.kp T.b__law_same .nil pass0 (pa_cons (pv 4) (pa_cons (pv 2) (pa_cons (pv 5) (pa_cons (pe_op op_mulU (pv 5) (pv 1)) pa_nil))))))) (pss_one (ps_ret pe_bl)) pss_nil)
      (pss_cons (ps_if (pt_cmpR op_gt (pv 1) pe_int (nomark _)) (pss_one (ps_ret pe_bl)) pss_nil)
      (pss_cons (ps_set (i := 2) sc__law_powers_right.nd rfl (by first | exact .inl rfl | exact .inr rfl) (pe_call (ok__law_grown T) (hr.mono (by decide)) (by rfl) T.g__law_grown T.F__law_grown.kp T.b__law_grown .nil pass0 (pa_cons (pv 0) (pa_cons (pe_ifExp (pt_cmpR (op_eqK (K := K) hr.units) (pv 1) pe_int (nomark _)) pe_int pe_int) pa_nil))))
      (pss_cons (ps_setLc (i := 4) (own := [("number", 3)]) (g := gName 3) (tt := tYes) (by rfl) sc__law_powers_right.nd rfl rfl (sw_true rfl rfl rfl (by decide +kernel)) (pi_listK (K := K) (pv 2)) (blkOk_by (own := [("number", 3)]) (N := n__law_powers_right) (sc := defScope s__law_powers_right) (by decide +kernel)) (fun _ _ _ _ _ => (pg_name (i := 3) sc__law_powers_right.nd rfl (by first | exact .inl rfl | exact .inr rfl))) (fun _ _ _ _ _ => pts_nil) (fun _ _ _ _ _ => (pe_call (ok__law_raised T) (hr.mono (by decide)) (by rfl) T.g__law_raised T.F__law_raised.kp T.b__law_raised .nil pass0 (pa_cons (pv 3) (pa_cons (pv 1) pa_nil)))))
      (pss_cons (ps_set (i := 6) sc__law_powers_right.nd rfl (by first | exact .inl rfl | exact .inr rfl) (pe_call (ok_power_of T) (hr.mono (by decide)) (by rfl) T.g_power_of T.F_power_of.kp T.b_power_of .nil pass0 (pa_cons (pe_ix (ix_K (K := K)) (pv 2) pe_int (fun _ _ => rfl)) (pa_cons (pe_ix (ix_K (K := K)) (pv 2) pe_int (fun _ _ => rfl)) (pa_cons (pe_ix (ix_K (K := K)) (pv 2) pe_int (fun _ _ => rfl)) (pa_cons (pe_ix (ix_K (K := K)) (pv 2) pe_int (fun _ _ => rfl)) pa_nil))))))
      (pss_one (ps_ret (pe_cmpR (HP.op_eqO (K := K) (ok_Paper_eq T) T.b_Paper_eq (hr.mono (by decide))) (pe_call (ok_power_of T) (hr.mono (by decide)) (by rfl) T.g_power_of T.F_power_of.kp T.b_power_of .nil pass0 (pa_cons (pe_ix (ix_K (K := K)) (pv 4) pe_int (fun _ _ => rfl)) (pa_cons (pe_ix (ix_K (K := K)) (pv 4) pe_int (fun _ _ => rfl)) (pa_cons (pe_ix (ix_K (K := K)) (pv 4) pe_int (fun _ _ => rfl)) (pa_cons (pe_ix (ix_K (K := K)) (pv 4) pe_int (fun _ _ => rfl)) pa_nil))))) (pe_call (ok__law_divided T) (hr.mono (by decide)) (by rfl) T.g__law_divided T.F__law_divided.kp T.b__law_divided .nil pass0 (pa_cons (pv 6) (pa_cons (pv 1) pa_nil))) (nomark _))))))))))))), ?_⟩
  refine HX.start_ (σ := [some (.ref g : V), none, none, none, none, none, none]) rfl ?_
  walk_at "hr"
  intro d1 H1 b1 b1' k1 h1
  obtain ⟨kn, hkn⟩ := Int.eq_ofNat_of_zero_le (show 0 ≤ 2 + d1 by omega)
  have hk : 2 ≤ kn ∧ kn ≤ 6 := by omega
  obtain ⟨m, hm, hm2, hmk⟩ := most_at hk
  walk_at "hr"
  rw [hkn]
  walk_at "hr"
  intro t ht
  walk_at "hr"
  refine HX.ixL_ (SqL.of upd_same) hm ?_
  have h1' := h1.new (o := .lst mosts) ht
  have k1' := kept_new (o := .lst mosts) k1 ht
  rw [show upd H1 t (.lst [V.int 0, .int 0, .int 31, .int 31, .int 31, .int 15, .int 9]) = upd H1 t (.lst mosts) from rfl]
  generalize (upd H1 t (.lst mosts)) = H2 at h1' k1' ⊢
  clear h1 k1 ht
  walk_at "hr"
  intro pf H3 a b c d k3 h3 hf hfg gr
  walk_at "hr"
  refine ⟨pf, rfl, ⟨_, SqL.of hf⟩, ?_⟩
  intro D hD
  refine HX.lcLp (powV kn) (SqL.of hf) hD rfl (fun _ => rfl) (fun i x H' R hx e kk => ?_) (fun H4 e4 hL => ?_)
  · obtain ⟨y, rfl, y0, y1⟩ := grn_at gr hx
    walk_at "hw"
    walk_at "hr"
    rw [Int.toNat_natCast]
    exact kk _ (Same.refl _)
  have hf4 := e4 _ _ hf
  have h4 := h3.same e4
  have k4 := (k1'.trans k3).trans (kept_same e4)
  have hDg : D ≠ g := h3.na hD
  clear e4 hD hf h3 k3 k1' h1'
  simp only [List.map_cons, List.map_nil, powV] at hL
  have h80 := div80 (k := (kn : Int)) (by omega)
  walk_at "hr"
  intro d2 H5 c1 c2 k5 h5
  have hf5 := k5 _ _ hfg hf4
  have hL5 := k5 _ _ hDg hL
  have kk5 := k4.trans k5
  clear k4 k5 hf4 hL h4
  obtain ⟨pw, hpw⟩ : ∃ pw : Int, d2 - 80 / (kn : Int) = pw := ⟨_, rfl⟩
  have pb : -80 ≤ pw ∧ pw ≤ 80 := by omega
  have pb2 : -80 ≤ pw * (kn : Int) ∧ pw * (kn : Int) ≤ 80 := by
    have e1 : pw * (kn : Int) ≤ 80 / (kn : Int) * (kn : Int) := Int.mul_le_mul_of_nonneg_right (by omega) (by omega)
    have e2 : -(80 / (kn : Int)) * (kn : Int) ≤ pw * (kn : Int) := Int.mul_le_mul_of_nonneg_right (by omega) (by omega)
    rw [Int.neg_mul] at e2
    rw [Int.mul_comm (80 / (kn : Int))] at e1 e2
    omega
  walk_at "hr"
  rw [hpw]
  walk_at "hr"
  have oa : Ok4 a b c d := ⟨⟨gr.g1, by have := gr.g2; have := gr.g3; have := gr.g4; have := gr.g5; omega⟩, ⟨by have := gr.g1; have := gr.g2; omega, by have := gr.g3; have := gr.g4; have := gr.g5; omega⟩, ⟨by have := gr.g1; have := gr.g2; have := gr.g3; omega, by have := gr.g4; have := gr.g5; omega⟩, ⟨by have := gr.g1; have := gr.g2; have := gr.g3; have := gr.g4; omega, by have := gr.g5; omega⟩⟩
  refine use_same (E := E0) (SqL.of hL5) (SqL.of hf5) (gr.ok4 hmk) oa pb pb2 (alike_pow (by omega) oa pw) fun H6 e6 => ?_
  have h6 := h5.same e6
  have kk6 := kk5.trans (kept_same e6)
  clear hf5 hL5 kk5 h5 e6
  walk_at "hr"
  refine HX.ited_ (fun hb => ?_) (fun hb => ?_)
  · walk_at "hr"
    exact q _ kk6 (h6.mono (by omega))
  walk_at "hr"
  refine HC.joinB_ fun e he => ?_
  have hch : chk kn (e + 1).toNat = true ∧ e ^ kn ≤ 99 ∧ (e = 9 ∨ e = 4) := by
    rcases he with ⟨z, rfl⟩ | ⟨z, rfl⟩
    · have := of_decide_eq_true z
      obtain rfl : kn = 2 := by omega
      exact ⟨chk2, by decide, .inl rfl⟩
    · have := of_decide_eq_false z
      obtain rfl : kn = 3 := by omega
      exact ⟨chk3, by decide, .inr rfl⟩
  obtain ⟨hch, he99, he2⟩ := hch
  clear he
  have heb : 4 ≤ e ∧ e ≤ 9 := by omega
  walk_at "hr"
  intro pg H7 a2 b2 c2' d2' k7 h7 hg hgg gr2
  have kk7 := kk6.trans k7
  clear kk6 k7 h6
  walk_at "hr"
  refine ⟨pg, rfl, ⟨_, SqL.of hg⟩, ?_⟩
  intro D2 hD2
  refine HX.lcLp (powV kn) (SqL.of hg) hD2 rfl (fun _ => rfl) (fun i x H' R hx e kk => ?_) (fun H8 e8 hL8 => ?_)
  · obtain ⟨y, rfl, y0, y1⟩ := grn_at gr2 hx
    walk_at "hw"
    walk_at "hr"
    rw [Int.toNat_natCast]
    exact kk _ (Same.refl _)
  have hg8 := e8 _ _ hg
  have h8 := h7.same e8
  have kk8 := kk7.trans (kept_same e8)
  clear e8 hg h7 kk7
  simp only [List.map_cons, List.map_nil, powV] at hL8
  have ga := gr2.grow (show e ≤ 99 by omega)
  have gb := gr2.pow (k := kn) (by omega) he99
  have er : res (a2 ^ kn) (b2 ^ kn) (c2' ^ kn) (d2' ^ kn) = dvd (res a2 b2 c2' d2') kn := chk_at hch (by rw [show (((e + 1).toNat : Nat) : Int) - 1 = e by omega]; exact gr2)
  walk_at "hr"
  refine use_power_of (E := E0) ga fun x1 H9 e9 r1 => ?_
  have hL9 := e9 _ _ hL8
  have h9 := h8.same e9
  have kk9 := kk8.trans (kept_same e9)
  walk_at "hr"
  refine use_power_of (E := E0) gb fun x2 H10 e10 r2 => ?_
  rw [er] at r2
  walk_at "hr"
  refine use_divided (E := E0) (r1.same e10) (by omega) fun x3 H11 e11 r3 => ?_
  refine eqo_ (r2.same e11) r3 ?_
  exact q _ ((kk9.trans (kept_same e10)).trans (kept_same e11)) (((h9.same e10).same e11).mono (by omega))
section
variable {σ : L2.St} {H1 : Hp} {D : Addr} {Qd : Hp → Prop} {te : TE} {tt : TT} {vs : List Nat} {j : Nat}
/-- a comprehension over a range, with a test -/
theorem lcRf {lo : Int} {n : Nat} (P : Nat → List V → Hp → Prop) (hn : n ≤ 100000) (hw : ∀ x, wipe ((wipe σ vs).set j (some x)) vs = wipe σ vs) (h0 : P 0 [] (upd H1 D (.lst [])))
    (hs : ∀ i ys H (R : VK) (R' : Hp → Prop), i < n → ys.length ≤ i → P i ys H → H D = some (.lst ys) → (∀ y H4, H4 D = some (.lst ys) → P (i + 1) (ys ++ [y]) (upd H4 D (.lst (ys ++ [y]))) → R y H4) → (∀ H4, H4 D = some (.lst ys) → P (i + 1) ys H4 → R' H4) →
      tt ((wipe σ vs).set j (some (.int (lo + (i : Int))))) H fun b H3 => if b = true then te ((wipe σ vs).set j (some (.int (lo + (i : Int))))) H3 R else R' H3)
    (hd : ∀ ys H, ys.length ≤ n → P n ys H → H D = some (.lst ys) → Qd H) :
    LcG (Itr lo n) (gName j) tt te vs σ D H1 Qd := by
  refine lc_range (fun i H => ∃ ys : List V, ys.length ≤ i ∧ P i ys H ∧ H D = some (.lst ys)) ⟨[], Nat.le_refl _, h0, upd_same⟩ (fun i H hi p => ?_) fun H p => ?_
  · obtain ⟨ys, hl, hp, hD⟩ := p
    refine ⟨hw _, ?_⟩
    refine hs i ys H _ _ hi hl hp hD (fun y H4 hD4 p4 => ?_) (fun H4 hD4 p4 => ?_)
    · exact ⟨ys, hD4, Nat.lt_of_lt_of_le (show ys.length < 100000 by omega) (by decide), ys ++ [y], by rw [List.length_append]; exact Nat.succ_le_succ hl, p4, upd_same⟩
    · exact ⟨ys, by omega, p4, hD4⟩
  · obtain ⟨ys, hl, hp, hD⟩ := p
    exact hd ys H hl hp hD
end
section
variable {σ : L2.St} {H : Hp} {QB : Bool → Hp → Prop}
theorem ch2_ {ta : TE} {t : V → TT} (h : ta σ H fun x H1 => t x σ H1 QB) : HP.tCh2 ta t σ H QB := h
theorem chC2_ {r : R2} {tb : TE} {t : V → TT} {x : V} (h : tb σ H fun y H2 => r x y H2 fun z H3 => ∃ k, z = .bl k ∧ if k = true then t y σ H3 QB else QB false H3) : HP.tChC2 r tb t x σ H QB := h
theorem chL2_ {r : R2} {tb : TE} {x : V} (h : tb σ H fun y H2 => r x y H2 fun z H3 => ∃ k, z = .bl k ∧ QB k H3) : HP.tChL2 r tb x σ H QB := h
end
def divV (w : Int) : V → V
  | .int i => .int (w / i)
  | v => v
/-- a part of w, of at most 99 -/
def Part (w : Int) (y : V) : Prop := ∃ z : Int, y = .int z ∧ 1 ≤ z ∧ z ≤ 99 ∧ w % z = 0
theorem part_mul {w z : Int} (h : w % z = 0) : z * (w / z) = w := Int.mul_ediv_cancel' (Int.dvd_of_emod_eq_zero h)
theorem part_ge {w z : Int} (hw : 99 < w ∨ 0 < w) (hz : 1 ≤ z) (h : w % z = 0) : 1 ≤ w / z ∧ w / z ≤ w := by
  have e := part_mul h
  have e2 : 0 ≤ w / z := Int.ediv_nonneg (by omega) (by omega)
  have e3 : 1 * (w / z) ≤ z * (w / z) := Int.mul_le_mul_of_nonneg_right hz e2
  rw [Int.one_mul, e] at e3
  refine ⟨?_, e3⟩
  rcases Int.lt_or_eq_of_le e2 with x | x
  · omega
  · rw [← x, Int.mul_zero] at e; omega
def sp__law_parts_right (K : PySem.W.Frag) : Sp := fun vs H Q _ => ∃ (g k : Addr) (ns : List Int) (n : Nat), vs = [.ref g] ∧ Hat H g k ns n ∧ n ≤ 1000 ∧ ∀ H', Kept g H H' → Hat H' g k ns (n + 20) → Q (.bl true) H'
theorem ok__law_parts_right (T : Tx P K mg) : FnOk P w K mg base CX0 8 T.f__law_parts_right T.fd__law_parts_right ["hat"] (sp__law_parts_right K) := by
  refine T.F__law_parts_right.ok sc__law_parts_right (fun vs H Q E h => ?_) (fun cdv A outer s H vs Q E hr h => ?_)
  · obtain ⟨g, k, ns, n, rfl, hh, hn, q⟩ := h; rfl
  obtain ⟨g, k, ns, n, rfl, hh, hn, q⟩ := h
  refine ⟨_, (pss_cons (ps_set (i := 1) sc__law_parts_right.nd rfl (by first | exact .inl rfl | exact .inr rfl) (pe_call (ok__law_one T) (hr.mono (by decide)) (by rfl) T.g__law_one T.F__law_one.kp T.b__law_one .nil pass0 (pa_cons (pv 0) (pa_cons (pe_lst (pa_cons pe_int (pa_cons pe_int (pa_cons pe_int (pa_cons pe_int (pa_cons pe_int (pa_cons pe_int (pa_cons pe_int (pa_cons pe_int pa_nil))))))))) pa_nil))))
      (pss_cons (ps_set (i := 3) sc__law_parts_right.nd rfl (by first | exact .inl rfl | exact .inr rfl) (pe_lc (own := [("part", 2)]) (g := gName 2) (by rfl) sc__law_parts_right.nd (pi_range2 (by rfl) T.z_range (pa_cons pe_int (pa_cons pe_int pa_nil))) (blkOk_by (own := [("part", 2)]) (N := n__law_parts_right) (sc := defScope s__law_parts_right) (by decide +kernel)) (fun _ _ _ _ _ => (pg_name (i := 2) sc__law_parts_right.nd rfl (by first | exact .inl rfl | exact .inr rfl))) (fun _ _ _ _ _ => (pts_one (pt_cmpR (op_eqK (K := K) hr.units) (pe_op op_modU (pe_callTy call_intU (by rfl) T.z_int (by decide +kernel) (pa_cons (pv 1) pa_nil)) (pv 2)) pe_int (nomark _)))) (fun _ _ _ _ _ => (pv 2))))
      (pss_cons (ps_setLc (i := 5) (own := [("turn", 4)]) (g := gName 4) (tt := tYes) (by rfl) sc__law_parts_right.nd rfl rfl (sw_true rfl rfl rfl (by decide +kernel)) (pi_range1 (by rfl) T.z_range (pa_cons pe_int pa_nil)) (blkOk_by (own := [("turn", 4)]) (N := n__law_parts_right) (sc := defScope s__law_parts_right) (by decide +kernel)) (fun _ _ _ _ _ => (pg_name (i := 4) sc__law_parts_right.nd rfl (by first | exact .inl rfl | exact .inr rfl))) (fun _ _ _ _ _ => pts_nil) (fun _ _ _ _ _ => (pe_call (ok__law_one T) (hr.mono (by decide)) (by rfl) T.g__law_one T.F__law_one.kp T.b__law_one .nil pass0 (pa_cons (pv 0) (pa_cons (pv 3) pa_nil)))))
      (pss_cons (ps_set (i := 6) sc__law_parts_right.nd rfl (by first | exact .inl rfl | exact .inr rfl) (pe_call (ok__law_power T) (hr.mono (by decide)) (by rfl) T.g__law_power T.F__law_power.kp T.b__law_power .nil pass0 (pa_cons (pv 0) pa_nil)))
      (pss_cons (ps_if (pt_not (pt_val (pe_call (ok__law_same T) (hr.mono (by decide)) (by rfl) T.g__law_same T.F__law_same.kp T.b__law_same .nil pass0 (pa_cons (pv 5) (pa_cons (pe_lc (own := [("part", 2)]) (g := gName 2) (tt := tYes) (by rfl) sc__law_parts_right.nd (pi_listK (K := K) (pv 5)) (blkOk_by (own := [("part", 2)]) (N := n__law_parts_right) (sc := defScope s__law_parts_right) (by decide +kernel)) (fun _ _ _ _ _ => (pg_name (i := 2) sc__law_parts_right.nd rfl (by first | exact .inl rfl | exact .inr rfl))) (fun _ _ _ _ _ => pts_nil) (fun _ _ _ _ _ => (pe_op op_fdivU (pv 1) (pv 2)))) (pa_cons (pv 6) (pa_cons (pe_un un_neg (pv 6)) pa_nil))))))) (pss_one (ps_ret pe_bl)) pss_nil)
      (pss_cons (ps_set (i := 5) sc__law_parts_right.nd rfl (by first | exact .inl rfl | exact .inr rfl) (pe_callB (HC.cr_sortedK (K := K)) (by rfl) T.z_sorted (by decide +kernel) (pa_cons (pv 5) pa_nil)))
      (pss_cons (ps_if (PW.pt (pw_or (pt_cmpR op_gt (pv 1) pe_int (nomark _)) (pw_or1 (pt_not (HP.pt_chN pe_int (HP.pch_cons op_lt (pe_ix (ix_K (K := K)) (pv 5) pe_int (fun _ _ => rfl)) (HP.pch_cons op_lt (pe_ix (ix_K (K := K)) (pv 5) pe_int (fun _ _ => rfl)) (HP.pch_cons op_le (pe_ix (ix_K (K := K)) (pv 5) pe_int (fun _ _ => rfl)) (HP.pch_last op_lt (pe_ix (ix_K (K := K)) (pv 5) pe_int (fun _ _ => rfl))))))))))) (pss_one (ps_ret pe_bl)) pss_nil)
      (pss_cons (ps_setLc (i := 7) (own := [("part", 2)]) (g := gName 2) (tt := tYes) (by rfl) sc__law_parts_right.nd rfl rfl (sw_true rfl rfl rfl (by decide +kernel)) (pi_listK (K := K) (HC.pe_revK (K := K) (pv 5))) (blkOk_by (own := [("part", 2)]) (N := n__law_parts_right) (sc := defScope s__law_parts_right) (by decide +kernel)) (fun _ _ _ _ _ => (pg_name (i := 2) sc__law_parts_right.nd rfl (by first | exact .inl rfl | exact .inr rfl))) (fun _ _ _ _ _ => pts_nil) (fun _ _ _ _ _ => (pe_op op_fdivU (pv 1) (pv 2))))
      (pss_cons (ps_par (i := 8) (j := 9) (by rfl) sc__law_parts_right.nd rfl rfl (by decide) rfl rfl (pa_cons (pe_call (ok_power_of T) (hr.mono (by decide)) (by rfl) T.g_power_of T.F_power_of.kp T.b_power_of .nil pass0 (pa_cons (pe_ix (ix_K (K := K)) (pv 5) pe_int (fun _ _ => rfl)) (pa_cons (pe_ix (ix_K (K := K)) (pv 5) pe_int (fun _ _ => rfl)) (pa_cons (pe_ix (ix_K (K := K)) (pv 5) pe_int (fun _ _ => rfl)) (pa_cons (pe_ix (ix_K (K := K)) (pv 5) pe_int (fun _ _ => rfl)) pa_nil))))) (pa_cons (pe_call (ok_power_of T) (hr.mono (by decide)) (by rfl) T.g_power_of T.F_power_of.kp T.b_power_of .nil pass0 (pa_cons (pe_ix (ix_K (K := K)) (pv 7) pe_int (fun _ _ => rfl)) (pa_cons (pe_ix (ix_K (K := K)) (pv 7) pe_int (fun _ _ => rfl)) (pa_cons (pe_ix (ix_K (K := K)) (pv 7) pe_int (fun _ _ => rfl)) (pa_cons (pe_ix (ix_K (K := K)) (pv 7) pe_int (fun _ _ => rfl)) pa_nil))))) pa_nil)) (by rfl))
      (pss_cons (ps_if (pt_val (pe_callB (call_isiK' (K := K)) (by rfl) T.z_isinstance (by decide +kernel) (pa_cons (pv 8) (pa_cons (pe_glob (v := .ref T.C_ByPower) (by rfl) T.g_ByPower rfl) pa_nil)))) (pss_one (ps_ret (pe_cmpR (HP.op_eqO (K := K) (ok_Paper_eq T) T.b_Paper_eq (hr.mono (by decide))) (pv 9) (StX.pe_makeR T.mk_ByPower (ok_ByPower_init T) (hr.mono (by decide)) (by rfl) T.g_ByPower pass0 (pa_cons (pe_un un_neg (HC.pe_fldK (K := K) (pv 8))) pa_nil)) (nomark _)))) pss_nil)
      (pss_one (ps_ret (pe_cmpR (HP.op_eqO (K := K) (ok_Paper_eq T) T.b_Paper_eq (hr.mono (by decide))) (pv 9) (StX.pe_makeR T.mk_Between (ok_Between_init T) (hr.mono (by decide)) (by rfl) T.g_Between pass0 (pa_cons (pe_op op_sub (pe_un un_neg (HC.pe_fldK (K := K) (pv 8))) pe_int) pa_nil)) (nomark _)))))))))))))), ?_⟩
  refine HX.start_ (σ := [some (.ref g : V), none, none, none, none, none, none, none, none, none]) rfl ?_
  walk_at "hr"
  intro p hp
  refine use_one (E := E0) (hh.new hp) (by omega) (SqL.of upd_same) (hh.na hp) ⟨by show 0 < 8; omega, by show 8 ≤ 1000; omega⟩ fun v H1 hv k1 h1 => ?_
  have hv2 : ∃ z : Int, v = .int z ∧ 48 ≤ z ∧ z ≤ 831600 := by
    simp only [List.mem_cons, List.mem_nil_iff, or_false] at hv
    rcases hv with rfl | rfl | rfl | rfl | rfl | rfl | rfl | rfl <;> exact ⟨_, rfl, by omega, by omega⟩
  obtain ⟨w', rfl, w1, w2⟩ := hv2
  have k1 := (kept_new (Kept.refl g H) hp).trans k1
  clear hv
  walk_at "hr"
  refine ⟨⟨by omega, by omega, by omega, by omega⟩, ?_⟩
  intro D hD
  have hDg : D ≠ g := h1.na hD
  rw [show (100 - 1 : Int).toNat = 99 from rfl]
  refine lcRf (fun i ys H' => Kept g H1 H' ∧ Hat H' g k ns (n + 1) ∧ (∀ y ∈ ys, Part w' y) ∧ (0 < i → 0 < ys.length)) (by omega) (fun _ => rfl) ⟨kept_at (Kept.refl _ _) hD, h1.new hD, fun _ h => (nomatch h), fun h => absurd h (by omega)⟩ (fun i ys H' R R' hi hy pp hDy cont skip => ?_) fun ys H2 hl pp hL => ?_
  · walk_at "hw"
    walk_at "hr"
    intro z hz hz0 hz1
    walk_at "hr"
    refine HX.ited_ (fun hq => ?_) (fun hq => ?_)
    · walk_at "hr"
      refine cont _ _ hDy ⟨kept_at pp.1 hD, pp.2.1.upd hDg (h1.nc hD), fun y hyy => ?_, fun _ => by rw [List.length_append]; exact Nat.succ_pos _⟩
      rcases List.mem_append.mp hyy with u | u
      · exact pp.2.2.1 y u
      · rw [List.mem_singleton] at u
        exact ⟨_, u, by omega, by omega, by rw [hz, hq]⟩
    · refine skip _ hDy ⟨pp.1, pp.2.1, pp.2.2.1, fun _ => ?_⟩
      by_cases i0 : i = 0
      · subst i0
        exact absurd hz (by
          have : w' % (1 + ((0 : Nat) : Int)) = 0 := by show w' % (1 + 0) = 0; omega
          omega)
      · exact pp.2.2.2 (by omega)
  have hpl : 0 < ys.length ∧ ys.length ≤ 1000 := ⟨pp.2.2.2 (by omega), by omega⟩
  have hpart := pp.2.2.1
  have h2 := pp.2.1
  have k2 := k1.trans pp.1
  clear pp k1 hD h1
  walk_at "hr"
  refine ⟨by omega, by omega, ?_⟩
  intro D2 hD2
  have hD2g : D2 ≠ g := h2.na hD2
  refine HX.lcRd (dn := 1) (fun i zs => ∀ y ∈ zs, Part w' y) h2 hD2 (by decide) (fun _ => rfl) (fun _ h => nomatch h) ?_ ?_
  · intro i zs H' R hi hy r kx h cont
    walk_at "hw"
    have hi4 : i < 4 := hi
    walk_at "hr"
    refine use_one (E := E0) h (by omega) (SqL.of (kx _ _ hDg hL)) hDg hpl fun v H4 hv k4 h4 => ?_
    refine cont _ _ k4 (h4.mono (by omega)) fun y hyy => ?_
    rcases List.mem_append.mp hyy with u | u
    · exact r y u
    · rw [List.mem_singleton] at u
      rw [u]
      exact hpart v hv
  intro zs H3 hl r k3 h3 hL3
  have hl4 : zs.length = 4 := hl
  have kk3 := k2.trans k3
  have h3' : Hat H3 g k ns (n + 5) := h3.mono (by show n + 1 + 1 * 4 ≤ n + 5; omega)
  clear k2 k3 h3 hL hD2 h2
  match zs, hl4 with
  | [y1, y2, y3, y4], _ =>
  obtain ⟨u1, rfl, a1, a1', m1⟩ := r y1 (by simp)
  obtain ⟨u2, rfl, a2, a2', m2⟩ := r y2 (by simp)
  obtain ⟨u3, rfl, a3, a3', m3⟩ := r y3 (by simp)
  obtain ⟨u4, rfl, a4, a4', m4⟩ := r y4 (by simp)
  walk_at "hr"
  intro pw H4 pw1 pw2 k4 h4
  have hL4 := k4 _ _ hD2g hL3
  have kk4 := kk3.trans k4
  clear kk3 k4 h3' hL3
  walk_at "hr"
  refine ⟨D2, rfl, ⟨_, SqL.of hL4⟩, ?_⟩
  intro D3 hD3
  refine HX.lcLp (divV w') (SqL.of hL4) hD3 rfl (fun _ => rfl) (fun i x H' R hx e kk => ?_) (fun H5 e5 hL5 => ?_)
  · obtain ⟨z, rfl, _, _, _⟩ := r x (List.mem_of_getElem? hx)
    walk_at "hw"
    walk_at "hr"
    exact kk _ (Same.refl _)
  have hS5 := e5 _ _ hL4
  have h5 := h4.same e5
  have kk5 := kk4.trans (kept_same e5)
  clear e5 kk4 h4 hL4 hD3
  simp only [List.map_cons, List.map_nil, divV] at hL5
  have v4 : Inv4 w' u1 u2 u3 u4 (w' / u1) (w' / u2) (w' / u3) (w' / u4) := ⟨part_mul m1, part_mul m2, part_mul m3, part_mul m4, by omega, by omega, by omega, by omega, by omega⟩
  have q1 := part_ge (w := w') (by omega) a1 m1
  have q2 := part_ge (w := w') (by omega) a2 m2
  have q3 := part_ge (w := w') (by omega) a3 m3
  have q4 := part_ge (w := w') (by omega) a4 m4
  walk_at "hr"
  refine use_same (E := E0) (SqL.of hS5) (SqL.of hL5) ⟨by omega, by omega, by omega, by omega⟩ ⟨by omega, by omega, by omega, by omega⟩ ⟨pw1, pw2⟩ (by omega) (v4.alike pw) fun H6 e6 => ?_
  have hS6 := e6 _ _ hS5
  have h6 := h5.same e6
  have kk6 := kk5.trans (kept_same e6)
  clear e6 kk5 h5 hS5 hL5 v4 q1 q2 q3 q4
  walk_at "hr"
  refine ⟨D2, [u1, u2, u3, u4], rfl, SqL.of hS6, by show 4 < 64; omega, fun ss p2 hperm _ hp2 => ?_⟩
  have hsl : ss.length = 4 := hperm.length_eq
  have hall : ∀ z ∈ ss, 1 ≤ z ∧ z ≤ 99 ∧ w' % z = 0 := fun z hz => by
    have := hperm.mem_iff.mp hz
    simp only [List.mem_cons, List.mem_nil_iff, or_false] at this
    rcases this with rfl | rfl | rfl | rfl <;> exact ⟨by assumption, by assumption, by assumption⟩
  match ss, hsl with
  | [a, b, c, d], _ =>
  obtain ⟨ga, ga', ma⟩ := hall a (by simp)
  obtain ⟨gb, gb', mb⟩ := hall b (by simp)
  obtain ⟨gc, gc', mc⟩ := hall c (by simp)
  obtain ⟨gd, gd', md⟩ := hall d (by simp)
  have h7 := h6.new (o := .lst [V.int a, V.int b, V.int c, V.int d]) hp2
  have kk7 := kept_new (o := .lst [V.int a, V.int b, V.int c, V.int d]) kk6 hp2
  have hp7 : (upd H6 p2 (.lst [V.int a, V.int b, V.int c, V.int d])) p2 = some (.lst [V.int a, V.int b, V.int c, V.int d]) := upd_same
  rw [show [a, b, c, d].map V.int = [V.int a, V.int b, V.int c, V.int d] from rfl]
  generalize (upd H6 p2 (.lst [V.int a, V.int b, V.int c, V.int d])) = H7 at h7 kk7 hp7 ⊢
  clear h6 kk6 hS6 hp2 hall hperm
  have fin : Q (.bl true) H7 := q _ kk7 (h7.mono (by omega))
  walk_at "hr"
  refine HX.ited_ (fun hw96 => ?_) (fun hw96 => ?_)
  · walk_at "hr"
    exact fin
  walk_at "hr"
  refine ch2_ ?_
  walk_at "hr"
  refine chC2_ ?_
  walk_at "hr"
  refine chC2_ ?_
  walk_at "hr"
  refine HX.ited_ (fun hab => ?_) (fun hab => ?_)
  case refine_2 =>
    walk_at "hr"
    exact fin
  refine chC2_ ?_
  walk_at "hr"
  refine HX.ited_ (fun hbc => ?_) (fun hbc => ?_)
  case refine_2 =>
    walk_at "hr"
    exact fin
  refine chL2_ ?_
  walk_at "hr"
  refine HX.itend_ (fun hcd => ?_) (fun hcd => ?_)
  · walk_at "hr"
    exact fin
  clear fin
  have v4 : Inv4 w' a b c d (w' / a) (w' / b) (w' / c) (w' / d) := ⟨part_mul ma, part_mul mb, part_mul mc, part_mul md, by omega, by omega, by omega, by omega, by omega⟩
  have gr : Grow a b c d := ⟨ga, hab, hbc, hcd, gd'⟩
  have gr2 : Grow (w' / d) (w' / c) (w' / b) (w' / a) := v4.grow hab hbc hcd (by omega)
  have er : res (w' / d) (w' / c) (w' / b) (w' / a) = opp (res a b c d) := v4.res
  walk_at "hr"
  refine HC.rev_ ?_
  walk_at "hr"
  refine ⟨p2, _, rfl, SqL.of hp7, fun p3 hp3 => ?_⟩
  rw [show [V.int a, V.int b, V.int c, V.int d].reverse = [V.int d, V.int c, V.int b, V.int a] from rfl]
  have h8 := h7.new (o := .lst [V.int d, V.int c, V.int b, V.int a]) hp3
  have kk8 := kept_new (o := .lst [V.int d, V.int c, V.int b, V.int a]) kk7 hp3
  have hp8 := HX.same_new (o := .lst [V.int d, V.int c, V.int b, V.int a]) hp3 _ _ hp7
  have hr8 : (upd H7 p3 (.lst [V.int d, V.int c, V.int b, V.int a])) p3 = some (.lst [V.int d, V.int c, V.int b, V.int a]) := upd_same
  generalize (upd H7 p3 (.lst [V.int d, V.int c, V.int b, V.int a])) = H8 at h8 kk8 hp8 hr8 ⊢
  clear h7 kk7 hp7 hp3
  refine ⟨p3, rfl, ⟨_, SqL.of hr8⟩, ?_⟩
  intro D4 hD4
  refine HX.lcLp (divV w') (SqL.of hr8) hD4 rfl (fun _ => rfl) (fun i x H' R hx e kk => ?_) (fun H9 e9 hL9 => ?_)
  · have hx2 : ∃ z : Int, x = .int z ∧ 1 ≤ z ∧ z ≤ 99 := by
      match i, hx with
      | 0, hx => cases hx; exact ⟨_, rfl, by omega, by omega⟩
      | 1, hx => cases hx; exact ⟨_, rfl, by omega, by omega⟩
      | 2, hx => cases hx; exact ⟨_, rfl, by omega, by omega⟩
      | 3, hx => cases hx; exact ⟨_, rfl, by omega, by omega⟩
    obtain ⟨z, rfl, _, _⟩ := hx2
    walk_at "hw"
    walk_at "hr"
    exact kk _ (Same.refl _)
  have hp9 := e9 _ _ hp8
  have h9 := h8.same e9
  have kk9 := kk8.trans (kept_same e9)
  clear e9 h8 kk8 hp8 hr8 hD4
  simp only [List.map_cons, List.map_nil, divV] at hL9
  walk_at "hr"
  refine use_power_of (E := E0) gr fun x1 H10 e10 r1 => ?_
  have hL10 := e10 _ _ hL9
  have h10 := h9.same e10
  have kk10 := kk9.trans (kept_same e10)
  clear hp9 hL9 h9 kk9 e10
  walk_at "hr"
  refine use_power_of (E := E0) gr2 fun x2 H11 e11 r2 => ?_
  rw [er] at r2
  have r1 := r1.same e11
  have h11 := h10.same e11
  have kk11 := kk10.trans (kept_same e11)
  clear hL10 h10 kk10 e11 er
  generalize res a b c d = rr at r1 r2
  obtain ⟨bb, pp⟩ := rr
  walk_at "hr"
  cases bb with
  | true =>
    obtain ⟨dx, t, z1, z2⟩ : HC.Pap K H11 x1 T.C_ByPower "bypower" (.tuple [.int pp]) [("power", .int pp)] := r1
    refine HX.isi_ (.own _) (T.pc_ByPower.ty z1) T.is_ByPower_ByPower ?_
    walk_at "hr"
    refine HC.make_ ?_
    walk_at "hr"
    refine HC.fld_ ?_
    walk_at "hr"
    refine HC.fldE_ z1 T.pc_ByPower.cl T.na_ByPower_power (HC.lk_third (by decide) (by decide)) ?_
    walk_at "hr"
    intro y dy hy hd _
    refine use_ByPower (T := T) (Q := fun v H2 => HP.rEqO false K T.f_Paper_eq (sp_Paper_eq T) (.ref x2) v H2 Q) hy hd fun H' e' h => ?_
    refine eqo_ (T := T) (r := (true, -pp)) (r2.same e') h ?_
    exact q _ (kk11.trans (kept_same e')) ((h11.same e').mono (by omega))
  | false =>
    obtain ⟨dx, t, z1, z2⟩ : HC.Pap K H11 x1 T.C_Between "between" (.tuple [.int pp]) [("low", .int pp)] := r1
    refine HX.isi_ (.own _) (T.pc_Between.ty z1) T.is_Between_ByPower ?_
    walk_at "hr"
    refine HC.make_ ?_
    walk_at "hr"
    refine HC.fld_ ?_
    walk_at "hr"
    refine HC.fldE_ z1 T.pc_Between.cl T.na_Between_low (HC.lk_third (by decide) (by decide)) ?_
    walk_at "hr"
    intro y dy hy hd _
    refine use_Between (T := T) (Q := fun v H2 => HP.rEqO false K T.f_Paper_eq (sp_Paper_eq T) (.ref x2) v H2 Q) hy hd fun H' e' h => ?_
    refine eqo_ (T := T) (r := (false, -pp - 1)) (r2.same e') h ?_
    exact q _ (kk11.trans (kept_same e')) ((h11.same e').mono (by omega))
theorem use_times {g k : Addr} {ns : List Int} {n : Nat} {H : Hp} {Q : VK} {E : XK} (hh : Hat H g k ns n) (hn : n ≤ 1000) (q : ∀ H', Kept g H H' → Hat H' g k ns (n + 20) → Q (.bl true) H') : sp__law_times_right K ([.ref g] ++ []) H Q E := ⟨g, k, ns, n, rfl, hh, hn, q⟩
theorem use_powers {g k : Addr} {ns : List Int} {n : Nat} {H : Hp} {Q : VK} {E : XK} (hh : Hat H g k ns n) (hn : n ≤ 1000) (q : ∀ H', Kept g H H' → Hat H' g k ns (n + 20) → Q (.bl true) H') : sp__law_powers_right K ([.ref g] ++ []) H Q E := ⟨g, k, ns, n, rfl, hh, hn, q⟩
theorem use_parts {g k : Addr} {ns : List Int} {n : Nat} {H : Hp} {Q : VK} {E : XK} (hh : Hat H g k ns n) (hn : n ≤ 1000) (q : ∀ H', Kept g H H' → Hat H' g k ns (n + 20) → Q (.bl true) H') : sp__law_parts_right K ([.ref g] ++ []) H Q E := ⟨g, k, ns, n, rfl, hh, hn, q⟩
def sp_law (K : PySem.W.Frag) : Sp := fun vs H Q _ => ∃ (a : Addr) (ns : List Int), vs = [.ref a] ∧ SqL K H a (ns.map V.int) ∧ ns.length ≤ 63 ∧ ∀ H', Q (.bl true) H'
theorem ok_law (T : Tx P K mg) : FnOk P w K mg base CX0 9 T.f_law T.fd_law ["script"] (sp_law K) := by
  refine T.F_law.ok sc_law (fun vs H Q E h => ?_) (fun cdv A outer s H vs Q E hr h => ?_)
  · obtain ⟨s0, ns0, rfl, hS, hl, q⟩ := h; rfl
  obtain ⟨s0, ns0, rfl, hS, hl, q⟩ := h
  refine ⟨_, (pss_cons (ps_set (i := 1) sc_law.nd rfl (by first | exact .inl rfl | exact .inr rfl) (pe_call (ok__law_hat T) (hr.mono (by decide)) (by rfl) T.g__law_hat T.F__law_hat.kp T.b__law_hat .nil pass0 (pa_cons (pv 0) pa_nil)))
      (pss_cons (ps_for PassesOwn.never (by rfl) (pi_range1 (by rfl) T.z_range (pa_cons pe_int pa_nil)) (pg_name (i := 2) sc_law.nd rfl (by first | exact .inl rfl | exact .inr rfl)) (pss_one (ps_if (PW.pt (pw_or (pt_not (pt_val (pe_call (ok__law_times_right T) (hr.mono (by decide)) (by rfl) T.g__law_times_right T.F__law_times_right.kp T.b__law_times_right .nil pass0 (pa_cons (pv 1) pa_nil)))) (pw_or (pt_not (pt_val (pe_call (ok__law_powers_right T) (hr.mono (by decide)) (by rfl) T.g__law_powers_right T.F__law_powers_right.kp T.b__law_powers_right .nil pass0 (pa_cons (pv 1) pa_nil)))) (pw_or1 (pt_not (pt_val (pe_call (ok__law_parts_right T) (hr.mono (by decide)) (by rfl) T.g__law_parts_right T.F__law_parts_right.kp T.b__law_parts_right .nil pass0 (pa_cons (pv 1) pa_nil)))))))) (pss_one (ps_ret pe_bl)) pss_nil)))
      (pss_one (ps_ret pe_bl)))), ?_⟩
  refine HX.start_ (σ := [some (.ref s0 : V), none, none]) rfl ?_
  walk_at "hr"
  refine ⟨s0, ns0, rfl, hS, hl, fun g k ns H0 e0 hg hh0 => ?_⟩
  walk_at "hr"
  refine ⟨by omega, by omega, ?_⟩
  refine for_range (lo := 0) (n := 2) (fun i σ H' => Hat H' g k ns (60 * i) ∧ ∃ x, σ = [some (.ref s0), some (.ref g), x]) ⟨hh0, _, rfl⟩ ?_ ?_
  · rintro i σ H1 hi ⟨hh, x, rfl⟩
    walk_at "hr"
    refine use_times (E := E0) hh (by omega) fun H2 k2 h2 => ?_
    walk_at "hr"
    refine use_powers (E := E0) h2 (by omega) fun H3 k3 h3 => ?_
    walk_at "hr"
    refine use_parts (E := E0) h3 (by omega) fun H4 k4 h4 => ?_
    walk_at "hr"
    exact ⟨h4.mono (by omega), _, rfl⟩
  · rintro σ H1 ⟨hh, x, rfl⟩
    walk_at "hr"
    exact q _
end
theorem all_mk {l : PySem.W.OpenLaw} {w : World} {K : PySem.W.Frag} {h : Heap} {mg : Str → Option Value} {fa : Addr} (X : K.In h) (G : h.Ns mainGlobals mg) (hfa : mg "law" = some (.ref fa))
    {C_Paper : Addr} (a_Paper : PySem.W.nsIn K mainGlobals "Paper" = some (some (.ref C_Paper)))
    {C_ByPower : Addr} (a_ByPower : PySem.W.nsIn K mainGlobals "ByPower" = some (some (.ref C_ByPower)))
    {C_Denial : Addr} (a_Denial : PySem.W.nsIn K mainGlobals "Denial" = some (some (.ref C_Denial)))
    {C_Between : Addr} (a_Between : PySem.W.nsIn K mainGlobals "Between" = some (some (.ref C_Between)))
    {od0 an0 : Option Addr} {sl0 : Array (Option Value)} {oc0 kV0 dc0 pm0 ct0 : Value} {f0 : Addr} {cd0 : Value} 
    (a0 : PySem.W.nsIn K mainGlobals "fixed" = some (some (.ref f0)))
    (l0 : K.lookup f0 = some ⟨oc0, od0, .func (PySem.W.fnOf "fixed" "fixed" (defArgs s_fixed) (defBody s_fixed) (defScope s_fixed) .none kV0 dc0 pm0 an0 cd0 ct0), sl0⟩)
    (c0 : PySem.W.codeIn K cd0 "fixed" = true)
    (k0 : PySem.W.keepIn K (.ref f0) = true)
    {od1 an1 : Option Addr} {sl1 : Array (Option Value)} {oc1 kV1 dc1 pm1 ct1 : Value} {f1 : Addr} {cd1 : Value} 
    (a1 : PySem.W.findIn K (.ref C_Paper) "__init__" = some (some (.ref f1)))
    (l1 : K.lookup f1 = some ⟨oc1, od1, .func (PySem.W.fnOf "__init__" "Paper.__init__" (defArgs s_Paper_init) (defBody s_Paper_init) (defScope s_Paper_init) .none kV1 dc1 pm1 an1 cd1 ct1), sl1⟩)
    (c1 : PySem.W.codeIn K cd1 "Paper.__init__" = true)
    {od2 an2 : Option Addr} {sl2 : Array (Option Value)} {oc2 kV2 dc2 pm2 ct2 : Value} {f2 : Addr} {cd2 : Value} 
    (a2 : PySem.W.findIn K (.ref C_Paper) "__eq__" = some (some (.ref f2)))
    (l2 : K.lookup f2 = some ⟨oc2, od2, .func (PySem.W.fnOf "__eq__" "Paper.__eq__" (defArgs s_Paper_eq) (defBody s_Paper_eq) (defScope s_Paper_eq) .none kV2 dc2 pm2 an2 cd2 ct2), sl2⟩)
    (c2 : PySem.W.codeIn K cd2 "Paper.__eq__" = true)
    (k2 : PySem.W.keepIn K (.ref f2) = true)
    {od3 an3 : Option Addr} {sl3 : Array (Option Value)} {oc3 kV3 dc3 pm3 ct3 : Value} {f3 : Addr} {cd3 : Value} 
    (a3 : PySem.W.nsIn K mainGlobals "is_integer" = some (some (.ref f3)))
    (l3 : K.lookup f3 = some ⟨oc3, od3, .func (PySem.W.fnOf "is_integer" "is_integer" (defArgs s_is_integer) (defBody s_is_integer) (defScope s_is_integer) .none kV3 dc3 pm3 an3 cd3 ct3), sl3⟩)
    (c3 : PySem.W.codeIn K cd3 "is_integer" = true)
    (k3 : PySem.W.keepIn K (.ref f3) = true)
    {od4 an4 : Option Addr} {sl4 : Array (Option Value)} {oc4 kV4 dc4 pm4 ct4 : Value} {f4 : Addr} {cd4 : Value} 
    (a4 : PySem.W.nsIn K mainGlobals "is_within" = some (some (.ref f4)))
    (l4 : K.lookup f4 = some ⟨oc4, od4, .func (PySem.W.fnOf "is_within" "is_within" (defArgs s_is_within) (defBody s_is_within) (defScope s_is_within) .none kV4 dc4 pm4 an4 cd4 ct4), sl4⟩)
    (c4 : PySem.W.codeIn K cd4 "is_within" = true)
    (k4 : PySem.W.keepIn K (.ref f4) = true)
    {od5 an5 : Option Addr} {sl5 : Array (Option Value)} {oc5 kV5 dc5 pm5 ct5 : Value} {f5 : Addr} {cd5 : Value} 
    (a5 : PySem.W.nsIn K mainGlobals "need_number" = some (some (.ref f5)))
    (l5 : K.lookup f5 = some ⟨oc5, od5, .func (PySem.W.fnOf "need_number" "need_number" (defArgs s_need_number) (defBody s_need_number) (defScope s_need_number) .none kV5 dc5 pm5 an5 cd5 ct5), sl5⟩)
    (c5 : PySem.W.codeIn K cd5 "need_number" = true)
    (k5 : PySem.W.keepIn K (.ref f5) = true)
    {od6 an6 : Option Addr} {sl6 : Array (Option Value)} {oc6 kV6 dc6 pm6 ct6 : Value} {f6 : Addr} {cd6 : Value} 
    (a6 : PySem.W.nsIn K mainGlobals "need_power" = some (some (.ref f6)))
    (l6 : K.lookup f6 = some ⟨oc6, od6, .func (PySem.W.fnOf "need_power" "need_power" (defArgs s_need_power) (defBody s_need_power) (defScope s_need_power) .none kV6 dc6 pm6 an6 cd6 ct6), sl6⟩)
    (c6 : PySem.W.codeIn K cd6 "need_power" = true)
    (k6 : PySem.W.keepIn K (.ref f6) = true)
    {od7 an7 : Option Addr} {sl7 : Array (Option Value)} {oc7 kV7 dc7 pm7 ct7 : Value} {f7 : Addr} {cd7 : Value} 
    (a7 : PySem.W.nsIn K mainGlobals "raised" = some (some (.ref f7)))
    (l7 : K.lookup f7 = some ⟨oc7, od7, .func (PySem.W.fnOf "raised" "raised" (defArgs s_raised) (defBody s_raised) (defScope s_raised) .none kV7 dc7 pm7 an7 cd7 ct7), sl7⟩)
    (c7 : PySem.W.codeIn K cd7 "raised" = true)
    (k7 : PySem.W.keepIn K (.ref f7) = true)
    {od8 an8 : Option Addr} {sl8 : Array (Option Value)} {oc8 kV8 dc8 pm8 ct8 : Value} {f8 : Addr} {cd8 : Value} 
    (a8 : PySem.W.nsIn K mainGlobals "lifted" = some (some (.ref f8)))
    (l8 : K.lookup f8 = some ⟨oc8, od8, .func (PySem.W.fnOf "lifted" "lifted" (defArgs s_lifted) (defBody s_lifted) (defScope s_lifted) .none kV8 dc8 pm8 an8 cd8 ct8), sl8⟩)
    (c8 : PySem.W.codeIn K cd8 "lifted" = true)
    (k8 : PySem.W.keepIn K (.ref f8) = true)
    {od9 an9 : Option Addr} {sl9 : Array (Option Value)} {oc9 kV9 dc9 pm9 ct9 : Value} {f9 : Addr} {cd9 : Value} 
    (a9 : PySem.W.nsIn K mainGlobals "sum_at" = some (some (.ref f9)))
    (l9 : K.lookup f9 = some ⟨oc9, od9, .func (PySem.W.fnOf "sum_at" "sum_at" (defArgs s_sum_at) (defBody s_sum_at) (defScope s_sum_at) .none kV9 dc9 pm9 an9 cd9 ct9), sl9⟩)
    (c9 : PySem.W.codeIn K cd9 "sum_at" = true)
    (k9 : PySem.W.keepIn K (.ref f9) = true)
    {od10 an10 : Option Addr} {sl10 : Array (Option Value)} {oc10 kV10 dc10 pm10 ct10 : Value} {f10 : Addr} {cd10 : Value} 
    (a10 : PySem.W.nsIn K mainGlobals "need_four" = some (some (.ref f10)))
    (l10 : K.lookup f10 = some ⟨oc10, od10, .func (PySem.W.fnOf "need_four" "need_four" (defArgs s_need_four) (defBody s_need_four) (defScope s_need_four) .none kV10 dc10 pm10 an10 cd10 ct10), sl10⟩)
    (c10 : PySem.W.codeIn K cd10 "need_four" = true)
    (k10 : PySem.W.keepIn K (.ref f10) = true)
    {od11 an11 : Option Addr} {sl11 : Array (Option Value)} {oc11 kV11 dc11 pm11 ct11 : Value} {f11 : Addr} {cd11 : Value} 
    (a11 : PySem.W.nsIn K mainGlobals "sign_at" = some (some (.ref f11)))
    (l11 : K.lookup f11 = some ⟨oc11, od11, .func (PySem.W.fnOf "sign_at" "sign_at" (defArgs s_sign_at) (defBody s_sign_at) (defScope s_sign_at) .none kV11 dc11 pm11 an11 cd11 ct11), sl11⟩)
    (c11 : PySem.W.codeIn K cd11 "sign_at" = true)
    (k11 : PySem.W.keepIn K (.ref f11) = true)
    {od12 an12 : Option Addr} {sl12 : Array (Option Value)} {oc12 kV12 dc12 pm12 ct12 : Value} {f12 : Addr} {cd12 : Value} 
    (a12 : PySem.W.nsIn K mainGlobals "holds_by" = some (some (.ref f12)))
    (l12 : K.lookup f12 = some ⟨oc12, od12, .func (PySem.W.fnOf "holds_by" "holds_by" (defArgs s_holds_by) (defBody s_holds_by) (defScope s_holds_by) .none kV12 dc12 pm12 an12 cd12 ct12), sl12⟩)
    (c12 : PySem.W.codeIn K cd12 "holds_by" = true)
    (k12 : PySem.W.keepIn K (.ref f12) = true)
    {od13 an13 : Option Addr} {sl13 : Array (Option Value)} {oc13 kV13 dc13 pm13 ct13 : Value} {f13 : Addr} {cd13 : Value} 
    (a13 : PySem.W.nsIn K mainGlobals "is_by" = some (some (.ref f13)))
    (l13 : K.lookup f13 = some ⟨oc13, od13, .func (PySem.W.fnOf "is_by" "is_by" (defArgs s_is_by) (defBody s_is_by) (defScope s_is_by) .none kV13 dc13 pm13 an13 cd13 ct13), sl13⟩)
    (c13 : PySem.W.codeIn K cd13 "is_by" = true)
    (k13 : PySem.W.keepIn K (.ref f13) = true)
    {od14 an14 : Option Addr} {sl14 : Array (Option Value)} {oc14 kV14 dc14 pm14 ct14 : Value} {f14 : Addr} 
    (a14 : PySem.W.findIn K (.ref C_ByPower) "__init__" = some (some (.ref f14)))
    {cc14 ca14 : Addr} {xcl14 : Value} {xcd14 : Option Addr} {xvs14 : Array Value} {xcs14 : Array (Option Value)} {file14 : Str} {tf14 : Tok} {ycl14 : Value} {ycd14 : Option Addr} {ycs14 : Array (Option Value)} {cdD14 : ClassData} 
    (l14 : K.lookup f14 = some ⟨oc14, od14, .func (PySem.W.fnX "__init__" "ByPower.__init__" (defArgs s_ByPower_init) (defBody s_ByPower_init) (defScope s_ByPower_init) [("__class__", cc14)] .none kV14 dc14 pm14 an14 (.ref ca14) ct14), sl14⟩)
    (c14 : PySem.W.codeIn K (.ref ca14) "ByPower.__init__" = true)
    (x14 : K.lookup ca14 = some ⟨xcl14, xcd14, .fields xvs14, xcs14⟩)
    (u14 : xvs14[2]? = some (.str file14 tf14))
    (v14 : ((l.prog.main.file : Str) == file14) = true)
    (y14 : K.lookup cc14 = some ⟨ycl14, ycd14, .cell (some (.ref C_ByPower)), ycs14⟩)
    (w14 : PySem.W.clsIn K C_ByPower = some cdD14)
    (z_super : PySem.W.nsIn K mainGlobals "super" = some none)
    (t_super : (l.prog.main.scope.names.lookup ("super" : Str)).isSome = false)
    {od15 an15 : Option Addr} {sl15 : Array (Option Value)} {oc15 kV15 dc15 pm15 ct15 : Value} {f15 : Addr} 
    (a15 : PySem.W.findIn K (.ref C_Between) "__init__" = some (some (.ref f15)))
    {cc15 ca15 : Addr} {xcl15 : Value} {xcd15 : Option Addr} {xvs15 : Array Value} {xcs15 : Array (Option Value)} {file15 : Str} {tf15 : Tok} {ycl15 : Value} {ycd15 : Option Addr} {ycs15 : Array (Option Value)} {cdD15 : ClassData} 
    (l15 : K.lookup f15 = some ⟨oc15, od15, .func (PySem.W.fnX "__init__" "Between.__init__" (defArgs s_Between_init) (defBody s_Between_init) (defScope s_Between_init) [("__class__", cc15)] .none kV15 dc15 pm15 an15 (.ref ca15) ct15), sl15⟩)
    (c15 : PySem.W.codeIn K (.ref ca15) "Between.__init__" = true)
    (x15 : K.lookup ca15 = some ⟨xcl15, xcd15, .fields xvs15, xcs15⟩)
    (u15 : xvs15[2]? = some (.str file15 tf15))
    (v15 : ((l.prog.main.file : Str) == file15) = true)
    (y15 : K.lookup cc15 = some ⟨ycl15, ycd15, .cell (some (.ref C_Between)), ycs15⟩)
    (w15 : PySem.W.clsIn K C_Between = some cdD15)
    {od16 an16 : Option Addr} {sl16 : Array (Option Value)} {oc16 kV16 dc16 pm16 ct16 : Value} {f16 : Addr} {cd16 : Value} 
    (a16 : PySem.W.nsIn K mainGlobals "need_growing" = some (some (.ref f16)))
    (l16 : K.lookup f16 = some ⟨oc16, od16, .func (PySem.W.fnOf "need_growing" "need_growing" (defArgs s_need_growing) (defBody s_need_growing) (defScope s_need_growing) .none kV16 dc16 pm16 an16 cd16 ct16), sl16⟩)
    (c16 : PySem.W.codeIn K cd16 "need_growing" = true)
    (k16 : PySem.W.keepIn K (.ref f16) = true)
    {od17 an17 : Option Addr} {sl17 : Array (Option Value)} {oc17 kV17 dc17 pm17 ct17 : Value} {f17 : Addr} {cd17 : Value} 
    (a17 : PySem.W.nsIn K mainGlobals "least_step" = some (some (.ref f17)))
    (l17 : K.lookup f17 = some ⟨oc17, od17, .func (PySem.W.fnOf "least_step" "least_step" (defArgs s_least_step) (defBody s_least_step) (defScope s_least_step) .none kV17 dc17 pm17 an17 cd17 ct17), sl17⟩)
    (c17 : PySem.W.codeIn K cd17 "least_step" = true)
    (k17 : PySem.W.keepIn K (.ref f17) = true)
    {od18 an18 : Option Addr} {sl18 : Array (Option Value)} {oc18 kV18 dc18 pm18 ct18 : Value} {f18 : Addr} {cd18 : Value} 
    (a18 : PySem.W.nsIn K mainGlobals "power_of" = some (some (.ref f18)))
    (l18 : K.lookup f18 = some ⟨oc18, od18, .func (PySem.W.fnOf "power_of" "power_of" (defArgs s_power_of) (defBody s_power_of) (defScope s_power_of) .none kV18 dc18 pm18 an18 cd18 ct18), sl18⟩)
    (c18 : PySem.W.codeIn K cd18 "power_of" = true)
    (k18 : PySem.W.keepIn K (.ref f18) = true)
    {od19 an19 : Option Addr} {sl19 : Array (Option Value)} {oc19 kV19 dc19 pm19 ct19 : Value} {f19 : Addr} {cd19 : Value} 
    (a19 : PySem.W.nsIn K mainGlobals "_law_hat" = some (some (.ref f19)))
    (l19 : K.lookup f19 = some ⟨oc19, od19, .func (PySem.W.fnOf "_law_hat" "_law_hat" (defArgs s__law_hat) (defBody s__law_hat) (defScope s__law_hat) .none kV19 dc19 pm19 an19 cd19 ct19), sl19⟩)
    (c19 : PySem.W.codeIn K cd19 "_law_hat" = true)
    (k19 : PySem.W.keepIn K (.ref f19) = true)
    {od20 an20 : Option Addr} {sl20 : Array (Option Value)} {oc20 kV20 dc20 pm20 ct20 : Value} {f20 : Addr} {cd20 : Value} 
    (a20 : PySem.W.nsIn K mainGlobals "_law_lot" = some (some (.ref f20)))
    (l20 : K.lookup f20 = some ⟨oc20, od20, .func (PySem.W.fnOf "_law_lot" "_law_lot" (defArgs s__law_lot) (defBody s__law_lot) (defScope s__law_lot) .none kV20 dc20 pm20 an20 cd20 ct20), sl20⟩)
    (c20 : PySem.W.codeIn K cd20 "_law_lot" = true)
    (k20 : PySem.W.keepIn K (.ref f20) = true)
    {od21 an21 : Option Addr} {sl21 : Array (Option Value)} {oc21 kV21 dc21 pm21 ct21 : Value} {f21 : Addr} {cd21 : Value} 
    (a21 : PySem.W.nsIn K mainGlobals "_law_one" = some (some (.ref f21)))
    (l21 : K.lookup f21 = some ⟨oc21, od21, .func (PySem.W.fnOf "_law_one" "_law_one" (defArgs s__law_one) (defBody s__law_one) (defScope s__law_one) .none kV21 dc21 pm21 an21 cd21 ct21), sl21⟩)
    (c21 : PySem.W.codeIn K cd21 "_law_one" = true)
    (k21 : PySem.W.keepIn K (.ref f21) = true)
    {od22 an22 : Option Addr} {sl22 : Array (Option Value)} {oc22 kV22 dc22 pm22 ct22 : Value} {f22 : Addr} {cd22 : Value} 
    (a22 : PySem.W.nsIn K mainGlobals "_law_raised" = some (some (.ref f22)))
    (l22 : K.lookup f22 = some ⟨oc22, od22, .func (PySem.W.fnOf "_law_raised" "_law_raised" (defArgs s__law_raised) (defBody s__law_raised) (defScope s__law_raised) .none kV22 dc22 pm22 an22 cd22 ct22), sl22⟩)
    (c22 : PySem.W.codeIn K cd22 "_law_raised" = true)
    (k22 : PySem.W.keepIn K (.ref f22) = true)
    {od23 an23 : Option Addr} {sl23 : Array (Option Value)} {oc23 kV23 dc23 pm23 ct23 : Value} {f23 : Addr} {cd23 : Value} 
    (a23 : PySem.W.nsIn K mainGlobals "_law_grown" = some (some (.ref f23)))
    (l23 : K.lookup f23 = some ⟨oc23, od23, .func (PySem.W.fnOf "_law_grown" "_law_grown" (defArgs s__law_grown) (defBody s__law_grown) (defScope s__law_grown) .none kV23 dc23 pm23 an23 cd23 ct23), sl23⟩)
    (c23 : PySem.W.codeIn K cd23 "_law_grown" = true)
    (k23 : PySem.W.keepIn K (.ref f23) = true)
    {od24 an24 : Option Addr} {sl24 : Array (Option Value)} {oc24 kV24 dc24 pm24 ct24 : Value} {f24 : Addr} {cd24 : Value} 
    (a24 : PySem.W.nsIn K mainGlobals "_law_power" = some (some (.ref f24)))
    (l24 : K.lookup f24 = some ⟨oc24, od24, .func (PySem.W.fnOf "_law_power" "_law_power" (defArgs s__law_power) (defBody s__law_power) (defScope s__law_power) .none kV24 dc24 pm24 an24 cd24 ct24), sl24⟩)
    (c24 : PySem.W.codeIn K cd24 "_law_power" = true)
    (k24 : PySem.W.keepIn K (.ref f24) = true)
    {od25 an25 : Option Addr} {sl25 : Array (Option Value)} {oc25 kV25 dc25 pm25 ct25 : Value} {f25 : Addr} {cd25 : Value} 
    (a25 : PySem.W.nsIn K mainGlobals "_law_same" = some (some (.ref f25)))
    (l25 : K.lookup f25 = some ⟨oc25, od25, .func (PySem.W.fnOf "_law_same" "_law_same" (defArgs s__law_same) (defBody s__law_same) (defScope s__law_same) .none kV25 dc25 pm25 an25 cd25 ct25), sl25⟩)
    (c25 : PySem.W.codeIn K cd25 "_law_same" = true)
    (k25 : PySem.W.keepIn K (.ref f25) = true)
    {od26 an26 : Option Addr} {sl26 : Array (Option Value)} {oc26 kV26 dc26 pm26 ct26 : Value} {f26 : Addr} {cd26 : Value} 
    (a26 : PySem.W.nsIn K mainGlobals "_law_times_right" = some (some (.ref f26)))
    (l26 : K.lookup f26 = some ⟨oc26, od26, .func (PySem.W.fnOf "_law_times_right" "_law_times_right" (defArgs s__law_times_right) (defBody s__law_times_right) (defScope s__law_times_right) .none kV26 dc26 pm26 an26 cd26 ct26), sl26⟩)
    (c26 : PySem.W.codeIn K cd26 "_law_times_right" = true)
    (k26 : PySem.W.keepIn K (.ref f26) = true)
    {od27 an27 : Option Addr} {sl27 : Array (Option Value)} {oc27 kV27 dc27 pm27 ct27 : Value} {f27 : Addr} {cd27 : Value} 
    (a27 : PySem.W.nsIn K mainGlobals "_law_divided" = some (some (.ref f27)))
    (l27 : K.lookup f27 = some ⟨oc27, od27, .func (PySem.W.fnOf "_law_divided" "_law_divided" (defArgs s__law_divided) (defBody s__law_divided) (defScope s__law_divided) .none kV27 dc27 pm27 an27 cd27 ct27), sl27⟩)
    (c27 : PySem.W.codeIn K cd27 "_law_divided" = true)
    (k27 : PySem.W.keepIn K (.ref f27) = true)
    {od28 an28 : Option Addr} {sl28 : Array (Option Value)} {oc28 kV28 dc28 pm28 ct28 : Value} {f28 : Addr} {cd28 : Value} 
    (a28 : PySem.W.nsIn K mainGlobals "_law_powers_right" = some (some (.ref f28)))
    (l28 : K.lookup f28 = some ⟨oc28, od28, .func (PySem.W.fnOf "_law_powers_right" "_law_powers_right" (defArgs s__law_powers_right) (defBody s__law_powers_right) (defScope s__law_powers_right) .none kV28 dc28 pm28 an28 cd28 ct28), sl28⟩)
    (c28 : PySem.W.codeIn K cd28 "_law_powers_right" = true)
    (k28 : PySem.W.keepIn K (.ref f28) = true)
    {od29 an29 : Option Addr} {sl29 : Array (Option Value)} {oc29 kV29 dc29 pm29 ct29 : Value} {f29 : Addr} {cd29 : Value} 
    (a29 : PySem.W.nsIn K mainGlobals "_law_parts_right" = some (some (.ref f29)))
    (l29 : K.lookup f29 = some ⟨oc29, od29, .func (PySem.W.fnOf "_law_parts_right" "_law_parts_right" (defArgs s__law_parts_right) (defBody s__law_parts_right) (defScope s__law_parts_right) .none kV29 dc29 pm29 an29 cd29 ct29), sl29⟩)
    (c29 : PySem.W.codeIn K cd29 "_law_parts_right" = true)
    (k29 : PySem.W.keepIn K (.ref f29) = true)
    {od30 an30 : Option Addr} {sl30 : Array (Option Value)} {oc30 kV30 dc30 pm30 ct30 : Value} {f30 : Addr} {cd30 : Value} 
    (a30 : PySem.W.nsIn K mainGlobals "law" = some (some (.ref f30)))
    (l30 : K.lookup f30 = some ⟨oc30, od30, .func (PySem.W.fnOf "law" "law" (defArgs s_law) (defBody s_law) (defScope s_law) .none kV30 dc30 pm30 an30 cd30 ct30), sl30⟩)
    (c30 : PySem.W.codeIn K cd30 "law" = true)
    (k30 : PySem.W.keepIn K (.ref f30) = true)
    (oG : PySem.W.specialIn K (.builtin "object.__class__") "__get__" = some (some (.builtin "getset_descriptor.__get__")))
    (oT : PySem.W.takesIn K (.builtin "object.__class__") = some true)
    (oS : PySem.W.nsIn K cStatics "thirdparty.any" = some none)
    (mk1_Between : PySem.W.makesIn K C_Between = true)
    (mk2_Between : PySem.W.findIn K (.ref C_Between) "__init__" = some (some (.ref f15)))
    (mk3_Between : PySem.W.isFn K (.ref f15) = true)
    (mk4_Between : PySem.W.keepIn K (.ref C_Between) = true)
    (p1_Between : PySem.W.plainGet K C_Between Str.empty = true)
    (p2_Between : PySem.W.hasDictIn K C_Between = true)
    (p3_Between : PySem.W.plainOver K C_Between = true)
    (p4_Between : PySem.W.findIn K (.ref C_Between) "__setattr__" = some (some (.builtin "object.__setattr__")))
    (p5_Between : PySem.W.plainGet K C_Between "__class__" = true)
    (p6_Between : PySem.W.findIn K (.ref C_Between) "__class__" = some (some (.builtin "object.__class__")))
    (p7_Between : PySem.W.mroIn K C_Between (.type "object") = some true)
    {odN_Between : Option Addr} {cdN_Between : ClassData} {slN_Between : Array (Option Value)} {tkN_Between : Tok}
    (p8_Between : PySem.W.readsIn K C_Between (.type "type") = true)
    (p9_Between : PySem.W.findCls K (.ref C_Between) (.type "type") "__name__" = some (.get (.builtin "getset_descriptor.__get__") (.builtin "type.__name__") (.ref C_Between) (.type "type")))
    (p10_Between : K.lookup C_Between = some ⟨.type "type", odN_Between, .cls cdN_Between, slN_Between⟩)
    (p11_Between : slN_Between[2]? = some (some (.str "Between" tkN_Between)))
    (p12_Between : NoAttr K C_Between "word")
    (p13_Between : NoAttr K C_Between "parts")
    (p14_Between : PySem.W.kitOne K (.ref C_Between) (.ref C_Paper) = some true)
    (s1_Between_Between : PySem.W.ks_superIn K C_Between C_Between "__init__" = some (some (.ref f1)))
    (s2_Between_Between : PySem.W.typeIn K (.ref f1) = some (.type "function"))
    (s3_Between_Between : PySem.W.fnIn K f1 = true)
    (s4_Between_Between : PySem.W.mroIn K C_Between (.ref C_Between) = some true)
    (n_Between_low : NoAttr K C_Between "low")
    (i_Between_Paper : PySem.W.kitOne K (.ref C_Between) (.ref C_Paper) = some true)
    (i_Between_Between : PySem.W.kitOne K (.ref C_Between) (.ref C_Between) = some true)
    (i_Between_ByPower : PySem.W.kitOne K (.ref C_Between) (.ref C_ByPower) = some false)
    (e1_Between : PySem.W.findIn K (.ref C_Between) "__eq__" = some (some (.ref f2)))
    (e2_Between : PySem.W.isFn K (.ref f2) = true)
    (e3_Between : PySem.W.findIn K (.ref C_Between) "__ne__" = some (some (.builtin "object.__ne__")))
    (e4_Between_Between : PySem.W.notFirst K C_Between (.ref C_Between) = true)
    (e4_Between_ByPower : PySem.W.notFirst K C_Between (.ref C_ByPower) = true)
    (mk1_ByPower : PySem.W.makesIn K C_ByPower = true)
    (mk2_ByPower : PySem.W.findIn K (.ref C_ByPower) "__init__" = some (some (.ref f14)))
    (mk3_ByPower : PySem.W.isFn K (.ref f14) = true)
    (mk4_ByPower : PySem.W.keepIn K (.ref C_ByPower) = true)
    (p1_ByPower : PySem.W.plainGet K C_ByPower Str.empty = true)
    (p2_ByPower : PySem.W.hasDictIn K C_ByPower = true)
    (p3_ByPower : PySem.W.plainOver K C_ByPower = true)
    (p4_ByPower : PySem.W.findIn K (.ref C_ByPower) "__setattr__" = some (some (.builtin "object.__setattr__")))
    (p5_ByPower : PySem.W.plainGet K C_ByPower "__class__" = true)
    (p6_ByPower : PySem.W.findIn K (.ref C_ByPower) "__class__" = some (some (.builtin "object.__class__")))
    (p7_ByPower : PySem.W.mroIn K C_ByPower (.type "object") = some true)
    {odN_ByPower : Option Addr} {cdN_ByPower : ClassData} {slN_ByPower : Array (Option Value)} {tkN_ByPower : Tok}
    (p8_ByPower : PySem.W.readsIn K C_ByPower (.type "type") = true)
    (p9_ByPower : PySem.W.findCls K (.ref C_ByPower) (.type "type") "__name__" = some (.get (.builtin "getset_descriptor.__get__") (.builtin "type.__name__") (.ref C_ByPower) (.type "type")))
    (p10_ByPower : K.lookup C_ByPower = some ⟨.type "type", odN_ByPower, .cls cdN_ByPower, slN_ByPower⟩)
    (p11_ByPower : slN_ByPower[2]? = some (some (.str "ByPower" tkN_ByPower)))
    (p12_ByPower : NoAttr K C_ByPower "word")
    (p13_ByPower : NoAttr K C_ByPower "parts")
    (p14_ByPower : PySem.W.kitOne K (.ref C_ByPower) (.ref C_Paper) = some true)
    (s1_ByPower_ByPower : PySem.W.ks_superIn K C_ByPower C_ByPower "__init__" = some (some (.ref f1)))
    (s2_ByPower_ByPower : PySem.W.typeIn K (.ref f1) = some (.type "function"))
    (s3_ByPower_ByPower : PySem.W.fnIn K f1 = true)
    (s4_ByPower_ByPower : PySem.W.mroIn K C_ByPower (.ref C_ByPower) = some true)
    (n_ByPower_power : NoAttr K C_ByPower "power")
    (i_ByPower_Paper : PySem.W.kitOne K (.ref C_ByPower) (.ref C_Paper) = some true)
    (i_ByPower_Between : PySem.W.kitOne K (.ref C_ByPower) (.ref C_Between) = some false)
    (i_ByPower_ByPower : PySem.W.kitOne K (.ref C_ByPower) (.ref C_ByPower) = some true)
    (e1_ByPower : PySem.W.findIn K (.ref C_ByPower) "__eq__" = some (some (.ref f2)))
    (e2_ByPower : PySem.W.isFn K (.ref f2) = true)
    (e3_ByPower : PySem.W.findIn K (.ref C_ByPower) "__ne__" = some (some (.builtin "object.__ne__")))
    (e4_ByPower_Between : PySem.W.notFirst K C_ByPower (.ref C_Between) = true)
    (e4_ByPower_ByPower : PySem.W.notFirst K C_ByPower (.ref C_ByPower) = true)
    (z_abs : PySem.W.nsIn K mainGlobals "abs" = some none)
    (z_bool : PySem.W.nsIn K mainGlobals "bool" = some none)
    (z_int : PySem.W.nsIn K mainGlobals "int" = some none)
    (z_isinstance : PySem.W.nsIn K mainGlobals "isinstance" = some none)
    (z_len : PySem.W.nsIn K mainGlobals "len" = some none)
    (z_list : PySem.W.nsIn K mainGlobals "list" = some none)
    (z_range : PySem.W.nsIn K mainGlobals "range" = some none)
    (z_sorted : PySem.W.nsIn K mainGlobals "sorted" = some none)
    (z_tuple : PySem.W.nsIn K mainGlobals "tuple" = some none)
    {t_MOST_POWER : Tok} (c_MOST_POWER : PySem.W.nsIn K mainGlobals "MOST_POWER" = some (some (.int 80 t_MOST_POWER)))
    {t_MOST_NUMBER : Tok} (c_MOST_NUMBER : PySem.W.nsIn K mainGlobals "MOST_NUMBER" = some (some (.int 1000000 t_MOST_NUMBER)))
    {t_MOST_TOLD : Tok} (c_MOST_TOLD : PySem.W.nsIn K mainGlobals "MOST_TOLD" = some (some (.int 99 t_MOST_TOLD))) :
    ∃ fd : FuncData, (∀ (s : Shared) (v : Value), BindsTo s fd ⟨[v], []⟩ [("script", v)]) ∧ ∀ base : Heap, K.In base → base.Ns mainGlobals mg → FnOk l.prog w K mg base CX0 9 fa fd ["script"] (sp_law K) := by
  have e := hfa.symm.trans (PySem.W.mg_of X G a30)
  cases e
  have F0 := fun_mk (st := s_fixed) l0 c0 k0
  have b0 := F0.binds (ps := ["value"]) fun _ _ _ _ _ _ us hl => match us, hl with | [_], _ => rfl
  have F2 := fun_mk (st := s_Paper_eq) l2 c2 k2
  have b2 := F2.binds (ps := ["self", "other"]) fun _ _ _ _ _ _ us hl => match us, hl with | [_, _], _ => rfl
  have F3 := fun_mk (st := s_is_integer) l3 c3 k3
  have b3 := F3.binds (ps := ["value"]) fun _ _ _ _ _ _ us hl => match us, hl with | [_], _ => rfl
  have F4 := fun_mk (st := s_is_within) l4 c4 k4
  have b4 := F4.binds (ps := ["value", "least", "most"]) fun _ _ _ _ _ _ us hl => match us, hl with | [_, _, _], _ => rfl
  have F5 := fun_mk (st := s_need_number) l5 c5 k5
  have b5 := F5.binds (ps := ["value", "part", "least", "most"]) fun _ _ _ _ _ _ us hl => match us, hl with | [_, _, _, _], _ => rfl
  have F6 := fun_mk (st := s_need_power) l6 c6 k6
  have b6 := F6.binds (ps := ["power"]) fun _ _ _ _ _ _ us hl => match us, hl with | [_], _ => rfl
  have F7 := fun_mk (st := s_raised) l7 c7 k7
  have b7 := F7.binds (ps := ["number", "many"]) fun _ _ _ _ _ _ us hl => match us, hl with | [_, _], _ => rfl
  have F8 := fun_mk (st := s_lifted) l8 c8 k8
  have b8 := F8.binds (ps := ["a", "b", "c", "d", "power"]) fun _ _ _ _ _ _ us hl => match us, hl with | [_, _, _, _, _], _ => rfl
  have F9 := fun_mk (st := s_sum_at) l9 c9 k9
  have b9 := F9.binds (ps := ["a", "b", "c", "d", "power"]) fun _ _ _ _ _ _ us hl => match us, hl with | [_, _, _, _, _], _ => rfl
  have F10 := fun_mk (st := s_need_four) l10 c10 k10
  have b10 := F10.binds (ps := ["a", "b", "c", "d", "power"]) fun _ _ _ _ _ _ us hl => match us, hl with | [_, _, _, _, _], _ => rfl
  have F11 := fun_mk (st := s_sign_at) l11 c11 k11
  have b11 := F11.binds (ps := ["a", "b", "c", "d", "power"]) fun _ _ _ _ _ _ us hl => match us, hl with | [_, _, _, _, _], _ => rfl
  have F12 := fun_mk (st := s_holds_by) l12 c12 k12
  have b12 := F12.binds (ps := ["a", "b", "c", "d", "power"]) fun _ _ _ _ _ _ us hl => match us, hl with | [_, _, _, _, _], _ => rfl
  have F13 := fun_mk (st := s_is_by) l13 c13 k13
  have b13 := F13.binds (ps := ["a", "b", "c", "d", "power"]) fun _ _ _ _ _ _ us hl => match us, hl with | [_, _, _, _, _], _ => rfl
  have F16 := fun_mk (st := s_need_growing) l16 c16 k16
  have b16 := F16.binds (ps := ["a", "b", "c", "d"]) fun _ _ _ _ _ _ us hl => match us, hl with | [_, _, _, _], _ => rfl
  have F17 := fun_mk (st := s_least_step) l17 c17 k17
  have b17 := F17.binds (ps := ["a", "b", "c", "d", "side"]) fun _ _ _ _ _ _ us hl => match us, hl with | [_, _, _, _, _], _ => rfl
  have F18 := fun_mk (st := s_power_of) l18 c18 k18
  have b18 := F18.binds (ps := ["a", "b", "c", "d"]) fun _ _ _ _ _ _ us hl => match us, hl with | [_, _, _, _], _ => rfl
  have F19 := fun_mk (st := s__law_hat) l19 c19 k19
  have b19 := F19.binds (ps := ["script"]) fun _ _ _ _ _ _ us hl => match us, hl with | [_], _ => rfl
  have F20 := fun_mk (st := s__law_lot) l20 c20 k20
  have b20 := F20.binds (ps := ["hat", "many"]) fun _ _ _ _ _ _ us hl => match us, hl with | [_, _], _ => rfl
  have F21 := fun_mk (st := s__law_one) l21 c21 k21
  have b21 := F21.binds (ps := ["hat", "some"]) fun _ _ _ _ _ _ us hl => match us, hl with | [_, _], _ => rfl
  have F22 := fun_mk (st := s__law_raised) l22 c22 k22
  have b22 := F22.binds (ps := ["number", "many"]) fun _ _ _ _ _ _ us hl => match us, hl with | [_, _], _ => rfl
  have F23 := fun_mk (st := s__law_grown) l23 c23 k23
  have b23 := F23.binds (ps := ["hat", "most"]) fun _ _ _ _ _ _ us hl => match us, hl with | [_, _], _ => rfl
  have F24 := fun_mk (st := s__law_power) l24 c24 k24
  have b24 := F24.binds (ps := ["hat"]) fun _ _ _ _ _ _ us hl => match us, hl with | [_], _ => rfl
  have F25 := fun_mk (st := s__law_same) l25 c25 k25
  have b25 := F25.binds (ps := ["four", "other", "power", "turned"]) fun _ _ _ _ _ _ us hl => match us, hl with | [_, _, _, _], _ => rfl
  have F26 := fun_mk (st := s__law_times_right) l26 c26 k26
  have b26 := F26.binds (ps := ["hat"]) fun _ _ _ _ _ _ us hl => match us, hl with | [_], _ => rfl
  have F27 := fun_mk (st := s__law_divided) l27 c27 k27
  have b27 := F27.binds (ps := ["found", "many"]) fun _ _ _ _ _ _ us hl => match us, hl with | [_, _], _ => rfl
  have F28 := fun_mk (st := s__law_powers_right) l28 c28 k28
  have b28 := F28.binds (ps := ["hat"]) fun _ _ _ _ _ _ us hl => match us, hl with | [_], _ => rfl
  have F29 := fun_mk (st := s__law_parts_right) l29 c29 k29
  have b29 := F29.binds (ps := ["hat"]) fun _ _ _ _ _ _ us hl => match us, hl with | [_], _ => rfl
  have F30 := fun_mk (st := s_law) l30 c30 k30
  have b30 := F30.binds (ps := ["script"]) fun _ _ _ _ _ _ us hl => match us, hl with | [_], _ => rfl
  let T : Tx l.prog K mg := {
    C_Paper := C_Paper
    g_Paper := PySem.W.mg_of X G a_Paper
    C_ByPower := C_ByPower
    g_ByPower := PySem.W.mg_of X G a_ByPower
    C_Denial := C_Denial
    g_Denial := PySem.W.mg_of X G a_Denial
    C_Between := C_Between
    g_Between := PySem.W.mg_of X G a_Between
    f_fixed := _
    fd_fixed := _
    F_fixed := F0
    b_fixed := b0
    g_fixed := PySem.W.mg_of X G a0
    f_Paper_init := f1
    SF_Paper_init := ⟨⟨oc1, od1, .none, kV1, dc1, pm1, an1, cd1, ct1, sl1, l1, c1, StX.bind_star2 (B := fun xs => bindArgs (PySem.W.fnOf "__init__" "Paper.__init__" (defArgs s_Paper_init) (defBody s_Paper_init) (defScope s_Paper_init) .none kV1 dc1 pm1 an1 cd1 ct1) ⟨xs, []⟩) (fun _ _ => rfl) (fun _ _ _ _ => rfl)⟩⟩
    f_Paper_eq := _
    fd_Paper_eq := _
    F_Paper_eq := F2
    b_Paper_eq := b2
    f_is_integer := _
    fd_is_integer := _
    F_is_integer := F3
    b_is_integer := b3
    g_is_integer := PySem.W.mg_of X G a3
    f_is_within := _
    fd_is_within := _
    F_is_within := F4
    b_is_within := b4
    g_is_within := PySem.W.mg_of X G a4
    f_need_number := _
    fd_need_number := _
    F_need_number := F5
    b_need_number := b5
    g_need_number := PySem.W.mg_of X G a5
    f_need_power := _
    fd_need_power := _
    F_need_power := F6
    b_need_power := b6
    g_need_power := PySem.W.mg_of X G a6
    f_raised := _
    fd_raised := _
    F_raised := F7
    b_raised := b7
    g_raised := PySem.W.mg_of X G a7
    f_lifted := _
    fd_lifted := _
    F_lifted := F8
    b_lifted := b8
    g_lifted := PySem.W.mg_of X G a8
    f_sum_at := _
    fd_sum_at := _
    F_sum_at := F9
    b_sum_at := b9
    g_sum_at := PySem.W.mg_of X G a9
    f_need_four := _
    fd_need_four := _
    F_need_four := F10
    b_need_four := b10
    g_need_four := PySem.W.mg_of X G a10
    f_sign_at := _
    fd_sign_at := _
    F_sign_at := F11
    b_sign_at := b11
    g_sign_at := PySem.W.mg_of X G a11
    f_holds_by := _
    fd_holds_by := _
    F_holds_by := F12
    b_holds_by := b12
    g_holds_by := PySem.W.mg_of X G a12
    f_is_by := _
    fd_is_by := _
    F_is_by := F13
    b_is_by := b13
    g_is_by := PySem.W.mg_of X G a13
    f_ByPower_init := f14
    cc_ByPower_init := cc14
    ca_ByPower_init := ca14
    SD_ByPower_init := ⟨⟨oc14, od14, .none, kV14, dc14, pm14, ct14, an14, sl14, l14, fun us hl => match us, hl with | [_, _], _ => (by kernel_rfl)⟩, c14, rfl, ⟨xcl14, xcd14, xvs14, xcs14, file14, tf14, x14, u14, v14⟩, ⟨ycl14, ycd14, ycs14, y14⟩, ⟨_, w14⟩, PySem.W.mg_none_of X G z_super, t_super⟩
    f_Between_init := f15
    cc_Between_init := cc15
    ca_Between_init := ca15
    SD_Between_init := ⟨⟨oc15, od15, .none, kV15, dc15, pm15, ct15, an15, sl15, l15, fun us hl => match us, hl with | [_, _], _ => (by kernel_rfl)⟩, c15, rfl, ⟨xcl15, xcd15, xvs15, xcs15, file15, tf15, x15, u15, v15⟩, ⟨ycl15, ycd15, ycs15, y15⟩, ⟨_, w15⟩, PySem.W.mg_none_of X G z_super, t_super⟩
    f_need_growing := _
    fd_need_growing := _
    F_need_growing := F16
    b_need_growing := b16
    g_need_growing := PySem.W.mg_of X G a16
    f_least_step := _
    fd_least_step := _
    F_least_step := F17
    b_least_step := b17
    g_least_step := PySem.W.mg_of X G a17
    f_power_of := _
    fd_power_of := _
    F_power_of := F18
    b_power_of := b18
    g_power_of := PySem.W.mg_of X G a18
    f__law_hat := _
    fd__law_hat := _
    F__law_hat := F19
    b__law_hat := b19
    g__law_hat := PySem.W.mg_of X G a19
    f__law_lot := _
    fd__law_lot := _
    F__law_lot := F20
    b__law_lot := b20
    g__law_lot := PySem.W.mg_of X G a20
    f__law_one := _
    fd__law_one := _
    F__law_one := F21
    b__law_one := b21
    g__law_one := PySem.W.mg_of X G a21
    f__law_raised := _
    fd__law_raised := _
    F__law_raised := F22
    b__law_raised := b22
    g__law_raised := PySem.W.mg_of X G a22
    f__law_grown := _
    fd__law_grown := _
    F__law_grown := F23
    b__law_grown := b23
    g__law_grown := PySem.W.mg_of X G a23
    f__law_power := _
    fd__law_power := _
    F__law_power := F24
    b__law_power := b24
    g__law_power := PySem.W.mg_of X G a24
    f__law_same := _
    fd__law_same := _
    F__law_same := F25
    b__law_same := b25
    g__law_same := PySem.W.mg_of X G a25
    f__law_times_right := _
    fd__law_times_right := _
    F__law_times_right := F26
    b__law_times_right := b26
    g__law_times_right := PySem.W.mg_of X G a26
    f__law_divided := _
    fd__law_divided := _
    F__law_divided := F27
    b__law_divided := b27
    g__law_divided := PySem.W.mg_of X G a27
    f__law_powers_right := _
    fd__law_powers_right := _
    F__law_powers_right := F28
    b__law_powers_right := b28
    g__law_powers_right := PySem.W.mg_of X G a28
    f__law_parts_right := _
    fd__law_parts_right := _
    F__law_parts_right := F29
    b__law_parts_right := b29
    g__law_parts_right := PySem.W.mg_of X G a29
    f_law := _
    fd_law := _
    F_law := F30
    b_law := b30
    g_law := PySem.W.mg_of X G a30
    mk_Between := ⟨mk1_Between, mk2_Between, mk3_Between, mk4_Between⟩
    pc_Between := ⟨⟨p1_Between, p2_Between, p3_Between, p4_Between⟩, ⟨p5_Between, p2_Between, p6_Between, oG, oT, p7_Between⟩, ⟨p8_Between, p9_Between, ⟨_, _, _, _, p10_Between, p11_Between⟩⟩, p12_Between, p13_Between, p14_Between⟩
    su_Between_Between := ⟨s1_Between_Between, s2_Between_Between, s3_Between_Between, s4_Between_Between, oS⟩
    na_Between_low := n_Between_low
    is_Between_Paper := i_Between_Paper
    is_Between_Between := i_Between_Between
    is_Between_ByPower := i_Between_ByPower
    eq_Between_Between := ⟨e1_Between, e2_Between, e4_Between_Between, e3_Between, p7_Between⟩
    eq_Between_ByPower := ⟨e1_Between, e2_Between, e4_Between_ByPower, e3_Between, p7_Between⟩
    mk_ByPower := ⟨mk1_ByPower, mk2_ByPower, mk3_ByPower, mk4_ByPower⟩
    pc_ByPower := ⟨⟨p1_ByPower, p2_ByPower, p3_ByPower, p4_ByPower⟩, ⟨p5_ByPower, p2_ByPower, p6_ByPower, oG, oT, p7_ByPower⟩, ⟨p8_ByPower, p9_ByPower, ⟨_, _, _, _, p10_ByPower, p11_ByPower⟩⟩, p12_ByPower, p13_ByPower, p14_ByPower⟩
    su_ByPower_ByPower := ⟨s1_ByPower_ByPower, s2_ByPower_ByPower, s3_ByPower_ByPower, s4_ByPower_ByPower, oS⟩
    na_ByPower_power := n_ByPower_power
    is_ByPower_Paper := i_ByPower_Paper
    is_ByPower_Between := i_ByPower_Between
    is_ByPower_ByPower := i_ByPower_ByPower
    eq_ByPower_Between := ⟨e1_ByPower, e2_ByPower, e4_ByPower_Between, e3_ByPower, p7_ByPower⟩
    eq_ByPower_ByPower := ⟨e1_ByPower, e2_ByPower, e4_ByPower_ByPower, e3_ByPower, p7_ByPower⟩
    z_abs := PySem.W.mg_none_of X G z_abs
    z_bool := PySem.W.mg_none_of X G z_bool
    z_int := PySem.W.mg_none_of X G z_int
    z_isinstance := PySem.W.mg_none_of X G z_isinstance
    z_len := PySem.W.mg_none_of X G z_len
    z_list := PySem.W.mg_none_of X G z_list
    z_range := PySem.W.mg_none_of X G z_range
    z_sorted := PySem.W.mg_none_of X G z_sorted
    z_tuple := PySem.W.mg_none_of X G z_tuple
    t_MOST_POWER := _
    c_MOST_POWER := PySem.W.mg_of X G c_MOST_POWER
    t_MOST_NUMBER := _
    c_MOST_NUMBER := PySem.W.mg_of X G c_MOST_NUMBER
    t_MOST_TOLD := _
    c_MOST_TOLD := PySem.W.mg_of X G c_MOST_TOLD }
  exact ⟨PySem.W.fnOf "law" "law" (defArgs s_law) (defBody s_law) (defScope s_law) .none kV30 dc30 pm30 an30 cd30 ct30, fun s v => .of_eq rfl, fun base _ _ => ok_law T⟩
end K21
open PySem PySem.W PyProof.Rows
set_option maxHeartbeats 0 in
theorem PySem.Challenge.cw_fourthlike_k21_multiplied_the_power_stay_holds : PySem.Challenge.rw_fourthlike_k21_multiplied_the_power_stay.Holds := by
  w_on; o_law; k_head; (case hw => w_witness2)
  k_fill
  refine L2.walk_of (l := PySem.Challenge.rw_fourthlike_k21_multiplied_the_power_stay) (n := 63) (k := 9) (x := "script") (CX := fun _ => L2.CX0) (sp := fun w => K21.sp_law _) rfl (by decide) rfl ⟨rfl, by decide, by decide⟩ (fun w h Y => PySem.W.kIn_of Y) ?F (fun _ _ a ns hl _ hS => ⟨a, ns, rfl, hS, hl, fun _ => rfl⟩) (fun _ _ _ _ _ h => h)
  case F =>
    intro w mg fa h KX G hmg
    refine' K21.all_mk KX G hmg ?a_Paper ?a_ByPower ?a_Denial ?a_Between ?a0 ?l0 ?c0 ?k0 ?a1 ?l1 ?c1 ?a2 ?l2 ?c2 ?k2 ?a3 ?l3 ?c3 ?k3 ?a4 ?l4 ?c4 ?k4 ?a5 ?l5 ?c5 ?k5 ?a6 ?l6 ?c6 ?k6 ?a7 ?l7 ?c7 ?k7 ?a8 ?l8 ?c8 ?k8 ?a9 ?l9 ?c9 ?k9 ?a10 ?l10 ?c10 ?k10 ?a11 ?l11 ?c11 ?k11 ?a12 ?l12 ?c12 ?k12 ?a13 ?l13 ?c13 ?k13 ?a14 ?l14 ?c14 ?x14 ?u14 ?v14 ?y14 ?w14 ?z_super ?t_super ?a15 ?l15 ?c15 ?x15 ?u15 ?v15 ?y15 ?w15 ?a16 ?l16 ?c16 ?k16 ?a17 ?l17 ?c17 ?k17 ?a18 ?l18 ?c18 ?k18 ?a19 ?l19 ?c19 ?k19 ?a20 ?l20 ?c20 ?k20 ?a21 ?l21 ?c21 ?k21 ?a22 ?l22 ?c22 ?k22 ?a23 ?l23 ?c23 ?k23 ?a24 ?l24 ?c24 ?k24 ?a25 ?l25 ?c25 ?k25 ?a26 ?l26 ?c26 ?k26 ?a27 ?l27 ?c27 ?k27 ?a28 ?l28 ?c28 ?k28 ?a29 ?l29 ?c29 ?k29 ?a30 ?l30 ?c30 ?k30 ?oG ?oT ?oS ?mk1_Between ?mk2_Between ?mk3_Between ?mk4_Between ?p1_Between ?p2_Between ?p3_Between ?p4_Between ?p5_Between ?p6_Between ?p7_Between ?p8_Between ?p9_Between ?p10_Between ?p11_Between ?p12_Between ?p13_Between ?p14_Between ?s1_Between_Between ?s2_Between_Between ?s3_Between_Between ?s4_Between_Between ?n_Between_low ?i_Between_Paper ?i_Between_Between ?i_Between_ByPower ?e1_Between ?e2_Between ?e3_Between ?e4_Between_Between ?e4_Between_ByPower ?mk1_ByPower ?mk2_ByPower ?mk3_ByPower ?mk4_ByPower ?p1_ByPower ?p2_ByPower ?p3_ByPower ?p4_ByPower ?p5_ByPower ?p6_ByPower ?p7_ByPower ?p8_ByPower ?p9_ByPower ?p10_ByPower ?p11_ByPower ?p12_ByPower ?p13_ByPower ?p14_ByPower ?s1_ByPower_ByPower ?s2_ByPower_ByPower ?s3_ByPower_ByPower ?s4_ByPower_ByPower ?n_ByPower_power ?i_ByPower_Paper ?i_ByPower_Between ?i_ByPower_ByPower ?e1_ByPower ?e2_ByPower ?e3_ByPower ?e4_ByPower_Between ?e4_ByPower_ByPower ?z_abs ?z_bool ?z_int ?z_isinstance ?z_len ?z_list ?z_range ?z_sorted ?z_tuple ?c_MOST_POWER ?c_MOST_NUMBER ?c_MOST_TOLD
    (case a_Paper => (k_is))
    (case a_ByPower => (k_is))
    (case a_Denial => (k_is))
    (case a_Between => (k_is))
    (case a0 => (k_is))
    (case l0 => (k_is))
    (case c0 => (k_is))
    (case k0 => (k_is))
    (case a1 => (k_is))
    (case l1 => (k_is))
    (case c1 => (k_is))
    (case a2 => (k_is))
    (case l2 => (k_is))
    (case c2 => (k_is))
    (case k2 => (k_is))
    (case a3 => (k_is))
    (case l3 => (k_is))
    (case c3 => (k_is))
    (case k3 => (k_is))
    (case a4 => (k_is))
    (case l4 => (k_is))
    (case c4 => (k_is))
    (case k4 => (k_is))
    (case a5 => (k_is))
    (case l5 => (k_is))
    (case c5 => (k_is))
    (case k5 => (k_is))
    (case a6 => (k_is))
    (case l6 => (k_is))
    (case c6 => (k_is))
    (case k6 => (k_is))
    (case a7 => (k_is))
    (case l7 => (k_is))
    (case c7 => (k_is))
    (case k7 => (k_is))
    (case a8 => (k_is))
    (case l8 => (k_is))
    (case c8 => (k_is))
    (case k8 => (k_is))
    (case a9 => (k_is))
    (case l9 => (k_is))
    (case c9 => (k_is))
    (case k9 => (k_is))
    (case a10 => (k_is))
    (case l10 => (k_is))
    (case c10 => (k_is))
    (case k10 => (k_is))
    (case a11 => (k_is))
    (case l11 => (k_is))
    (case c11 => (k_is))
    (case k11 => (k_is))
    (case a12 => (k_is))
    (case l12 => (k_is))
    (case c12 => (k_is))
    (case k12 => (k_is))
    (case a13 => (k_is))
    (case l13 => (k_is))
    (case c13 => (k_is))
    (case k13 => (k_is))
    (case a14 => (k_is))
    (case l14 => (k_is))
    (case c14 => (k_is))
    (case x14 => (k_is))
    (case u14 => (rfl))
    (case v14 => (first | rfl | decide +kernel))
    (case y14 => (k_is))
    (case w14 => (k_is))
    (case z_super => (k_is))
    (case t_super => (first | rfl | decide +kernel))
    (case a15 => (k_is))
    (case l15 => (k_is))
    (case c15 => (k_is))
    (case x15 => (k_is))
    (case u15 => (rfl))
    (case v15 => (first | rfl | decide +kernel))
    (case y15 => (k_is))
    (case w15 => (k_is))
    (case a16 => (k_is))
    (case l16 => (k_is))
    (case c16 => (k_is))
    (case k16 => (k_is))
    (case a17 => (k_is))
    (case l17 => (k_is))
    (case c17 => (k_is))
    (case k17 => (k_is))
    (case a18 => (k_is))
    (case l18 => (k_is))
    (case c18 => (k_is))
    (case k18 => (k_is))
    (case a19 => (k_is))
    (case l19 => (k_is))
    (case c19 => (k_is))
    (case k19 => (k_is))
    (case a20 => (k_is))
    (case l20 => (k_is))
    (case c20 => (k_is))
    (case k20 => (k_is))
    (case a21 => (k_is))
    (case l21 => (k_is))
    (case c21 => (k_is))
    (case k21 => (k_is))
    (case a22 => (k_is))
    (case l22 => (k_is))
    (case c22 => (k_is))
    (case k22 => (k_is))
    (case a23 => (k_is))
    (case l23 => (k_is))
    (case c23 => (k_is))
    (case k23 => (k_is))
    (case a24 => (k_is))
    (case l24 => (k_is))
    (case c24 => (k_is))
    (case k24 => (k_is))
    (case a25 => (k_is))
    (case l25 => (k_is))
    (case c25 => (k_is))
    (case k25 => (k_is))
    (case a26 => (k_is))
    (case l26 => (k_is))
    (case c26 => (k_is))
    (case k26 => (k_is))
    (case a27 => (k_is))
    (case l27 => (k_is))
    (case c27 => (k_is))
    (case k27 => (k_is))
    (case a28 => (k_is))
    (case l28 => (k_is))
    (case c28 => (k_is))
    (case k28 => (k_is))
    (case a29 => (k_is))
    (case l29 => (k_is))
    (case c29 => (k_is))
    (case k29 => (k_is))
    (case a30 => (k_is))
    (case l30 => (k_is))
    (case c30 => (k_is))
    (case k30 => (k_is))
    (case oG => (k_is))
    (case oT => (k_is))
    (case oS => (k_is))
    (case mk1_Between => (k_is))
    (case mk2_Between => (k_is))
    (case mk3_Between => (k_is))
    (case mk4_Between => (k_is))
    (case p1_Between => (k_is))
    (case p2_Between => (k_is))
    (case p3_Between => (k_is))
    (case p4_Between => (k_is))
    (case p5_Between => (k_is))
    (case p6_Between => (k_is))
    (case p7_Between => (k_is))
    (case p8_Between => (k_is))
    (case p9_Between => (k_is))
    (case p10_Between => (k_is))
    (case p11_Between => (rfl))
    (case p12_Between => (show PySem.W.findIn _ _ _ = _; k_is))
    (case p13_Between => (show PySem.W.findIn _ _ _ = _; k_is))
    (case p14_Between => (kit_is))
    (case s1_Between_Between => (ks_is))
    (case s2_Between_Between => (k_is))
    (case s3_Between_Between => (k_is))
    (case s4_Between_Between => (k_is))
    (case n_Between_low => (show PySem.W.findIn _ _ _ = _; k_is))
    (case i_Between_Paper => (kit_is))
    (case i_Between_Between => (kit_is))
    (case i_Between_ByPower => (kit_is))
    (case e1_Between => (k_is))
    (case e2_Between => (k_is))
    (case e3_Between => (k_is))
    (case e4_Between_Between => (k_is))
    (case e4_Between_ByPower => (k_is))
    (case mk1_ByPower => (k_is))
    (case mk2_ByPower => (k_is))
    (case mk3_ByPower => (k_is))
    (case mk4_ByPower => (k_is))
    (case p1_ByPower => (k_is))
    (case p2_ByPower => (k_is))
    (case p3_ByPower => (k_is))
    (case p4_ByPower => (k_is))
    (case p5_ByPower => (k_is))
    (case p6_ByPower => (k_is))
    (case p7_ByPower => (k_is))
    (case p8_ByPower => (k_is))
    (case p9_ByPower => (k_is))
    (case p10_ByPower => (k_is))
    (case p11_ByPower => (rfl))
    (case p12_ByPower => (show PySem.W.findIn _ _ _ = _; k_is))
    (case p13_ByPower => (show PySem.W.findIn _ _ _ = _; k_is))
    (case p14_ByPower => (kit_is))
    (case s1_ByPower_ByPower => (ks_is))
    (case s2_ByPower_ByPower => (k_is))
    (case s3_ByPower_ByPower => (k_is))
    (case s4_ByPower_ByPower => (k_is))
    (case n_ByPower_power => (show PySem.W.findIn _ _ _ = _; k_is))
    (case i_ByPower_Paper => (kit_is))
    (case i_ByPower_Between => (kit_is))
    (case i_ByPower_ByPower => (kit_is))
    (case e1_ByPower => (k_is))
    (case e2_ByPower => (k_is))
    (case e3_ByPower => (k_is))
    (case e4_ByPower_Between => (k_is))
    (case e4_ByPower_ByPower => (k_is))
    (case z_abs => (k_is))
    (case z_bool => (k_is))
    (case z_int => (k_is))
    (case z_isinstance => (k_is))
    (case z_len => (k_is))
    (case z_list => (k_is))
    (case z_range => (k_is))
    (case z_sorted => (k_is))
    (case z_tuple => (k_is))
    (case c_MOST_POWER => (k_is))
    (case c_MOST_NUMBER => (k_is))
    (case c_MOST_TOLD => (k_is))
