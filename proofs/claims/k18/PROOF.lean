import PyProof.Rows.All
import Wide.All
import OpenK.AllK
import Wide.FinOn
import HandS.ForMost
import HandS.Wide
import HandS.Style
import HandS.NoneIn
import HandS.IsInst
import HandS.Evl
import PySem.Challenge.RW_fourthlike_k18_numbers_by_steps_and_by_t
set_option Elab.async false
set_option linter.all false
set_option maxRecDepth 100000
set_option maxHeartbeats 4000000
/-! step lemmas: each opens one word of a reading -/
namespace HX
open PySem PySem.Spec PyProof.Rows L2

/-! ### rules for any kind of values -/
def CMulU (i j : Int) : Prop := IntMulOk i j
theorem CMulU.l {i j : Int} (h : -(2 ^ 64) < i ∧ i < 2 ^ 64) : CMulU i j := L2.CMul.ok (.inl h)
theorem CMulU.r {i j : Int} (h : -(2 ^ 64) < j ∧ j < 2 ^ 64) : CMulU i j := L2.CMul.ok (.inr h)
theorem CMulU.w {i j : Int} (h : i.natAbs.log2 + j.natAbs.log2 < 1000000) : CMulU i j := L2.CMulW.ok h
section
variable {X : Cx}
theorem op_mulU : OpR X (binaryOp .Mult) (rI CMulU fun i j => .int (i * j)) := opI fun _ _ _ _ _ _ _ hc q => mul_int q hc
abbrev op_fdivU : OpR X (binaryOp .FloorDiv) (rI CDiv fun i j => .int (i / j)) := op_fdiv
def rMod : R2 := rI (fun _ j => 0 < j) fun i j => .int (i % j)
theorem op_modU : OpR X (binaryOp .Mod) rMod := op_mod
def rAddS : R2 := fun x y H Q => ∃ i j, x = .str i ∧ y = .str j ∧ i.length + j.length ≤ sizeLine ∧ Q (.str (i ++ j)) H
def rAddU (K : PySem.W.Frag) : R2 := fun x y H Q => rI0 (fun i j => .int (i + j)) x y H Q ∨ rAddS x y H Q ∨ rCat x y H Q ∨ rCatT K x y H Q
theorem op_addU : OpR X (binaryOp .Add) (rAddU X.K) := op_add.or (OpR.or (r := rAddS) op_add_str (op_cat.or op_catT))
def rEqU (K : PySem.W.Frag) : R2 := fun x y H Q => rEq x y H Q ∨ rEqD K x y H Q
def rNeU (K : PySem.W.Frag) : R2 := fun x y H Q => rNe x y H Q ∨ rNeD K x y H Q
theorem op_eqU (hu : X.A.units + 64 < cLine) : OpR X (compareOp .Eq) (rEqU X.K) := op_eq.or (op_eqD hu)
theorem op_neU (hu : X.A.units + 64 < cLine) : OpR X (compareOp .NotEq) (rNeU X.K) := op_ne.or (op_neD hu)
def rLenS (K : PySem.W.Frag) : List V → Hp → VK → Prop := fun xs H Q => ∃ p ys, xs = [.ref p] ∧ (SqL K H p ys ∨ SqT K H p ys) ∧ Q (.int ys.length) H
def rLenT : List V → Hp → VK → Prop := fun xs H Q => ∃ z, xs = [.str z] ∧ z.length ≤ sizeLine ∧ Q (.int z.length) H
def rLenU (K : PySem.W.Frag) : List V → Hp → VK → Prop := fun xs H Q => rLenS K xs H Q ∨ rLenT xs H Q
theorem call_lenU : CallR X (.builtin "len") (rLenU X.K) := CallR.or (r := rLenS X.K) call_len_seq (r' := rLenT) call_len_str
def rSlU (K : PySem.W.Frag) : V → Option Int → Option Int → Hp → VK → Prop := fun x lo hi H Q => rSlL K x lo hi H Q ∨ rSlT K x lo hi H Q ∨ rSlS x lo hi H Q
theorem sl_U : SlR X (rSlU X.K) := sl_list.or (sl_tup.or sl_str)
def rInSg : R2 := fun x y H Q => ∃ (c : Nat) (z : Str), x = .str ⟨#[c]⟩ ∧ y = .str z ∧ Q (.bl (decide (c ∈ z.cps.toList))) H
def rNiSg : R2 := fun x y H Q => ∃ (c : Nat) (z : Str), x = .str ⟨#[c]⟩ ∧ y = .str z ∧ Q (.bl (!decide (c ∈ z.cps.toList))) H
def rInU (K : PySem.W.Frag) : R2 := fun x y H Q => rIn K false x y H Q ∨ rInSg x y H Q
def rNiU (K : PySem.W.Frag) : R2 := fun x y H Q => rIn K true x y H Q ∨ rNiSg x y H Q
theorem op_inU : OpR X (compareOp .In) (rInU X.K) := OpR.or op_in_seq (r' := rInSg) op_in_sign
theorem op_notInU : OpR X (compareOp .NotIn) (rNiU X.K) := OpR.or op_notIn_seq (r' := rNiSg) op_notIn_sign
end

/-! ### the same, the written part named (a comprehension's block has the same) -/
section
variable {X : Cx} {K : PySem.W.Frag}
theorem op_addK (hK : X.K = K := by rfl) : OpR X (binaryOp .Add) (rAddU K) := by cases hK; exact op_addU
theorem op_eqK (hu : X.A.units + 64 < cLine) (hK : X.K = K := by rfl) : OpR X (compareOp .Eq) (rEqU K) := by cases hK; exact op_eqU hu
theorem op_neK (hu : X.A.units + 64 < cLine) (hK : X.K = K := by rfl) : OpR X (compareOp .NotEq) (rNeU K) := by cases hK; exact op_neU hu
theorem call_lenK (hK : X.K = K := by rfl) : CallR X (.builtin "len") (rLenU K) := by cases hK; exact call_lenU
theorem sl_K (hK : X.K = K := by rfl) : SlR X (rSlU K) := by cases hK; exact sl_U
theorem op_inK (hK : X.K = K := by rfl) : OpR X (compareOp .In) (rInU K) := by cases hK; exact op_inU
theorem op_notInK (hK : X.K = K := by rfl) : OpR X (compareOp .NotIn) (rNiU K) := by cases hK; exact op_notInU
theorem ix_K (hK : X.K = K := by rfl) : IxR X (rIx K) := by cases hK; exact ix_seq
theorem call_isiK' (hK : X.K = K := by rfl) : CallR X (.builtin "isinstance") (rIsi K) := by cases hK; exact call_isi
def rListOf (K : PySem.W.Frag) : List V → Hp → VK → Prop := fun xs H Q => ∃ p ys, xs = [.ref p] ∧ (SqL K H p ys ∨ SqT K H p ys) ∧ ∀ l, H l = none → Q (.ref l) (upd H l (.lst ys))
theorem call_listK (hK : X.K = K := by rfl) : CallR X (.type "list") (rListOf K) := by cases hK; exact call_list_of
def rTupleOf (K : PySem.W.Frag) : List V → Hp → VK → Prop := fun xs H Q => ∃ p ys, xs = [.ref p] ∧ ((SqL K H p ys ∧ ∀ l, H l = none → Q (.ref l) (upd H l (.tup ys))) ∨ (SqT K H p ys ∧ Q (.ref p) H))
theorem call_tupleK (hK : X.K = K := by rfl) : CallR X (.type "tuple") (rTupleOf K) := by cases hK; exact call_tuple_of
theorem cr_sumK (hc : X.calm = true) (hK : X.K = K := by rfl) : CallR X (.builtin "sum") (rSum K) := by cases hK; exact cr_sum hc
theorem cr_maxK (hc : X.calm = true) (hK : X.K = K := by rfl) : CallR X (.builtin "max") (rMax K) := by cases hK; exact cr_max hc
theorem cr_minK' (hc : X.calm = true) (hK : X.K = K := by rfl) : CallR X (.builtin "min") (rMin K) := by cases hK; exact cr_min hc
theorem cr_anyK (hc : X.calm = true) (hK : X.K = K := by rfl) : CallR X (.builtin "any") (rAny K) := by cases hK; exact cr_any hc
theorem cr_allK (hc : X.calm = true) (hK : X.K = K := by rfl) : CallR X (.builtin "all") (rAll K) := by cases hK; exact cr_all hc
theorem pi_listK {tg l : Expr} {tl : TE} (hl : PE X l tl) (hK : X.K = K := by rfl) : PI X tg l (iList K tl) := by cases hK; exact pi_list hl
theorem pi_tupK {tg l : Expr} {tl : TE} (hl : PE X l tl) (hK : X.K = K := by rfl) : PI X tg l (iTup K tl) := by cases hK; exact pi_tup hl
theorem pg_tupK {es : List Expr} {k : Nat} {pos : Pos} {t : TGs} (n : Nat) (hc : X.calm = true) (h : PGs X es t)
    (hn : (assignEach es X.env).length = n := by rfl) (hst : (assignEach es X.env).findIdx? (·.1) = none := by rfl) (hK : X.K = K := by rfl) : PG X (.Tuple es k pos) (gTup K n t) := by cases hK; exact pg_tup hc h hn hst
theorem pg_unlK {es : List Expr} {k : Nat} {pos : Pos} {t : TGs} (n : Nat) (hc : X.calm = true) (h : PGs X es t)
    (hn : (assignEach es X.env).length = n := by rfl) (hst : (assignEach es X.env).findIdx? (·.1) = none := by rfl) (hK : X.K = K := by rfl) : PG X (.Tuple es k pos) (gUnl K n t) := by cases hK; exact pg_unl hc h hn hst
end

theorem start_ {t : TS} {D : Ends} {N : List Str} {vs : List V} {σ : L2.St} {H : Hp} (e : start N vs = σ) (h : t D σ H) : t D (start N vs) H := by rw [e]; exact h
/-! ### statements -/
section
variable {σ : L2.St} {H : Hp} {nx bk ct : L2.St → Hp → Prop} {rt : VK} {t u : TS} {te : TE} {g : TG} {c : TT}
theorem seq_ (h : t ⟨u ⟨nx, rt, bk, ct⟩, rt, bk, ct⟩ σ H) : tSeq t u ⟨nx, rt, bk, ct⟩ σ H := h
theorem next_ (h : nx σ H) : tNext ⟨nx, rt, bk, ct⟩ σ H := h
theorem brk_ (h : bk σ H) : tBreak ⟨nx, rt, bk, ct⟩ σ H := h
theorem cont_ (h : ct σ H) : tCont ⟨nx, rt, bk, ct⟩ σ H := h
theorem asg_ (h : te σ H fun x H1 => g x σ H1 nx) : tAsg te g ⟨nx, rt, bk, ct⟩ σ H := h
theorem drop_ (h : te σ H fun _ H1 => nx σ H1) : tDrop te ⟨nx, rt, bk, ct⟩ σ H := h
theorem ret_ (h : te σ H rt) : tRet te ⟨nx, rt, bk, ct⟩ σ H := h
theorem retN_ (h : rt .non H) : tRetN ⟨nx, rt, bk, ct⟩ σ H := h
theorem ifS_ (h : c σ H fun b H1 => if b = true then t ⟨nx, rt, bk, ct⟩ σ H1 else u ⟨nx, rt, bk, ct⟩ σ H1) : tIfS c t u ⟨nx, rt, bk, ct⟩ σ H := h
theorem par_ {i j : Nat} {ta : TA} (h : ta σ H fun vs H1 => ∃ v w, vs = [v, w] ∧ gName i v σ H1 fun σ H => gName j w σ H nx) : tPar i j ta ⟨nx, rt, bk, ct⟩ σ H := h
theorem par3_ {i j l : Nat} {ta : TA} (h : ta σ H fun vs H1 => ∃ u v w, vs = [u, v, w] ∧ gName i u σ H1 fun σ H => gName j v σ H fun σ H => gName l w σ H nx) : tPar3 i j l ta ⟨nx, rt, bk, ct⟩ σ H := h
theorem e2_ {v w : V} {P : V → V → Prop} (h : P v w) : ∃ a b, [v, w] = [a, b] ∧ P a b := ⟨v, w, rfl, h⟩
theorem e3_ {v w z : V} {P : V → V → V → Prop} (h : P v w z) : ∃ a b c, [v, w, z] = [a, b, c] ∧ P a b c := ⟨v, w, z, rfl, h⟩
end
theorem cut_ {σ : L2.St} {H : Hp} {nx bk ct : L2.St → Hp → Prop} {rt : VK} {t u : TS} (Mid : L2.St → Hp → Prop) (h : t ⟨Mid, rt, bk, ct⟩ σ H) (h2 : ∀ σ' H', Mid σ' H' → u ⟨nx, rt, bk, ct⟩ σ' H') : Evl.tCut t u ⟨nx, rt, bk, ct⟩ σ H := ⟨Mid, h, h2⟩
/-! ### targets -/
section
variable {σ : L2.St} {H : Hp} {R : L2.St → Hp → Prop} {v : V} {i : Nat} {a : Option V} {t : TG} {ts : TGs}
theorem gn0_ (h : R (some v :: σ) H) : gName 0 v (a :: σ) H R := h
theorem gnS_ (h : gName i v σ H fun σ' H' => R (a :: σ') H') : gName (i + 1) v (a :: σ) H R := h
theorem gcons_ {vs : List V} (h : t v σ H fun σ' H' => ts vs σ' H' R) : gCons t ts (v :: vs) σ H R := ⟨v, vs, rfl, h⟩
theorem gnil_ (h : R σ H) : gNil [] σ H R := ⟨rfl, h⟩
theorem gtup_ {K : PySem.W.Frag} {n : Nat} {p : Addr} {xs : List V} (hT : SqT K H p xs) (hn : xs.length = n) (h : ts xs σ H R) : gTup K n ts (.ref p) σ H R := ⟨p, xs, rfl, hT, hn, h⟩
theorem gunl_ {K : PySem.W.Frag} {n : Nat} {p : Addr} {xs : List V} (hT : SqL K H p xs) (hn : xs.length = n) (h : ts xs σ H R) : gUnl K n ts (.ref p) σ H R := ⟨p, xs, rfl, hT, hn, h⟩
theorem gsub_ {to ti : TE} {s : TSet} (h : to σ H fun o H1 => ti σ H1 fun i H2 => s o i v H2 fun H3 => R σ H3) : gSub to ti s v σ H R := h
theorem setL_ {p : Addr} {xs : List V} {k : Int} {j : Nat} {P : Hp → Prop} (hp : H p = some (.lst xs)) (hj : ixN xs.length k = some j) (h : P (upd H p (.lst (xs.set j v)))) : rSetL (.ref p) (.int k) v H P := ⟨p, xs, k, j, rfl, rfl, hp, hj, h⟩
end
/-! ### expressions -/
section
variable {σ : L2.St} {H : Hp} {Q : VK} {QA : List V → Hp → Prop} {QB : Bool → Hp → Prop} {v x y : V} {i : Nat} {a : Option V} {ta tb te : TE} {tr : TA} {t u : TT} {r : R2} {K : PySem.W.Frag}
theorem var0_ (h : Q v H) : tVar 0 (some v :: σ) H Q := ⟨v, rfl, h⟩
theorem varS_ (h : tVar i σ H Q) : tVar (i + 1) (a :: σ) H Q := h
theorem c_ (h : Q v H) : tC v σ H Q := h
theorem op_ (h : ta σ H fun x H1 => tb σ H1 fun y H2 => r x y H2 Q) : tOp r ta tb σ H Q := h
theorem un_ {f : V → Hp → VK → Prop} (h : ta σ H fun x H1 => f x H1 Q) : tUn f ta σ H Q := h
theorem nil_ (h : QA [] H) : tNil σ H QA := h
theorem cons_ (h : ta σ H fun x H1 => tr σ H1 fun xs H2 => QA (x :: xs) H2) : tCons ta tr σ H QA := h
theorem tup_ (h : tr σ H fun xs H1 => xs.length ≤ sizeLine ∧ ∀ p, H1 p = none → Q (.ref p) (upd H1 p (.tup xs))) : tTup tr σ H Q := h
theorem lst_ (h : tr σ H fun xs H1 => xs.length ≤ sizeLine ∧ ∀ p, H1 p = none → Q (.ref p) (upd H1 p (.lst xs))) : tLst tr σ H Q := h
theorem call_ {sp : Sp} {dvs : List V} {E : XK} (h : tr σ H fun vs H1 => sp (vs ++ dvs) H1 Q E) : tCall sp dvs E tr σ H Q := h
theorem cb_ {f : List V → Hp → VK → Prop} (h : tr σ H fun vs H1 => f vs H1 Q) : tCB f tr σ H Q := h
theorem i0_ {g : Int → Int → V} {i j : Int} (h : Q (g i j) H) : rI0 g (.int i) (.int j) H Q := ⟨i, j, rfl, rfl, h⟩
theorem i_ {C : Int → Int → Prop} {g : Int → Int → V} {i j : Int} (hc : C i j) (h : Q (g i j) H) : rI C g (.int i) (.int j) H Q := ⟨i, j, rfl, rfl, hc, h⟩
theorem u_ {g : Int → V} {i : Int} (h : Q (g i) H) : rU g (.int i) H Q := ⟨i, rfl, h⟩
/-- a remainder: a letter and what is known of it -/
theorem mod_ {i j : Int} (hj : 0 < j) (h : ∀ z, i % j = z → 0 ≤ z → z < j → Q (.int z) H) : rMod (.int i) (.int j) H Q := ⟨i, j, rfl, rfl, hj, h _ rfl (Int.emod_nonneg i (by omega)) (Int.emod_lt_of_pos i hj)⟩
theorem add_int_ {i j : Int} (h : Q (.int (i + j)) H) : rAddU K (.int i) (.int j) H Q := .inl ⟨i, j, rfl, rfl, h⟩
theorem add_str_ {i j : Str} (hl : i.length + j.length ≤ sizeLine) (h : Q (.str (i ++ j)) H) : rAddU K (.str i) (.str j) H Q := .inr (.inl ⟨i, j, rfl, rfl, hl, h⟩)
theorem add_lst_ {l b : Addr} {xs zs : List V} (hl : H l = some (.lst xs)) (hb : H b = some (.lst zs)) (hz : xs.length + zs.length ≤ sizeLine) (h : ∀ p, H p = none → Q (.ref p) (upd H p (.lst (xs ++ zs)))) : rAddU K (.ref l) (.ref b) H Q := .inr (.inr (.inl ⟨l, b, xs, zs, rfl, rfl, hl, hb, hz, h⟩))
theorem eq_int_ {i j : Int} (h : Q (.bl (decide (i = j))) H) : rEqU K (.int i) (.int j) H Q := .inl ⟨rfl, by
  have e : decide (V.int i = V.int j) = decide (i = j) := decide_eq_decide.mpr ⟨V.int.inj, congrArg V.int⟩
  rw [e]; exact h⟩
theorem ne_int_ {i j : Int} (h : Q (.bl (!decide (i = j))) H) : rNeU K (.int i) (.int j) H Q := .inl ⟨rfl, by
  have e : decide (V.int i = V.int j) = decide (i = j) := decide_eq_decide.mpr ⟨V.int.inj, congrArg V.int⟩
  rw [e]; exact h⟩
theorem eq_bl_ {i j : Bool} (h : Q (.bl (decide (i = j))) H) : rEqU K (.bl i) (.bl j) H Q := .inl ⟨rfl, by
  have e : decide (V.bl i = V.bl j) = decide (i = j) := decide_eq_decide.mpr ⟨V.bl.inj, congrArg V.bl⟩
  rw [e]; exact h⟩
theorem ne_bl_ {i j : Bool} (h : Q (.bl (!decide (i = j))) H) : rNeU K (.bl i) (.bl j) H Q := .inl ⟨rfl, by
  have e : decide (V.bl i = V.bl j) = decide (i = j) := decide_eq_decide.mpr ⟨V.bl.inj, congrArg V.bl⟩
  rw [e]; exact h⟩
theorem eq_str_ {i j : Str} (h : Q (.bl (decide (i = j))) H) : rEqU K (.str i) (.str j) H Q := .inl ⟨rfl, by
  have e : decide (V.str i = V.str j) = decide (i = j) := decide_eq_decide.mpr ⟨V.str.inj, congrArg V.str⟩
  rw [e]; exact h⟩
theorem ne_str_ {i j : Str} (h : Q (.bl (!decide (i = j))) H) : rNeU K (.str i) (.str j) H Q := .inl ⟨rfl, by
  have e : decide (V.str i = V.str j) = decide (i = j) := decide_eq_decide.mpr ⟨V.str.inj, congrArg V.str⟩
  rw [e]; exact h⟩
theorem len_l_ {p : Addr} {ys : List V} (hs : SqL K H p ys) (h : Q (.int ys.length) H) : rLenU K [.ref p] H Q := .inl ⟨p, ys, rfl, .inl hs, h⟩
theorem len_t_ {p : Addr} {ys : List V} (hs : SqT K H p ys) (h : Q (.int ys.length) H) : rLenU K [.ref p] H Q := .inl ⟨p, ys, rfl, .inr hs, h⟩
theorem len_s_ {z : Str} (hz : z.length ≤ sizeLine) (h : Q (.int z.length) H) : rLenU K [.str z] H Q := .inr ⟨z, rfl, hz, h⟩
theorem ixL_ {p : Addr} {xs : List V} {i : Int} (hs : SqL K H p xs) (hv : atI xs i = some v) (h : Q v H) : rIx K (.ref p) (.int i) H Q := .inl ⟨p, xs, i, v, rfl, rfl, hs, hv, h⟩
theorem ixT_ {p : Addr} {xs : List V} {i : Int} (hs : SqT K H p xs) (hv : atI xs i = some v) (h : Q v H) : rIx K (.ref p) (.int i) H Q := .inr (.inl ⟨p, xs, i, v, rfl, rfl, hs, hv, h⟩)
theorem slL_ {p : Addr} {xs : List V} {lo hi : Option Int} (hs : SqL K H p xs) (h : ∀ q, H q = none → Q (.ref q) (upd H q (.lst (cutV xs lo hi)))) : rSlU K (.ref p) lo hi H Q := .inl ⟨p, xs, rfl, hs, h⟩
theorem sl_ {f : V → Option Int → Option Int → Hp → VK → Prop} {tl th : TO} (h : te σ H fun x H1 => tl σ H1 fun l H2 => th σ H2 fun u H3 => f x l u H3 Q) : tSl f te tl th σ H Q := h
theorem nopart_ {QO : Option Int → Hp → Prop} (h : QO none H) : tNoPart σ H QO := h
theorem part_ {QO : Option Int → Hp → Prop} (h : te σ H fun x H1 => ∃ i, x = .int i ∧ QO (some i) H1) : tPart te σ H QO := h
theorem eint_ {i : Int} {P : Int → Prop} (h : P i) : ∃ j, V.int i = .int j ∧ P j := ⟨i, rfl, h⟩
theorem eref_ {i : Addr} {P : Addr → Prop} (h : P i) : ∃ j, V.ref i = .ref j ∧ P j := ⟨i, rfl, h⟩
theorem ebl_ {i : Bool} {P : Bool → Prop} (h : P i) : ∃ j, V.bl i = .bl j ∧ P j := ⟨i, rfl, h⟩
/-! tests -/
theorem test_ (h : te σ H fun x H' => ∃ k, x = .bl k ∧ QB k H') : tTest te σ H QB := h
theorem b_ (h : te σ H fun x H' => ∃ k, x = .bl k ∧ QB k H') : tB te σ H QB := h
theorem and_ (h : t σ H fun c H1 => if c = true then u σ H1 QB else QB false H1) : tAnd t u σ H QB := h
theorem or_ (h : t σ H fun c H1 => if c = true then QB true H1 else u σ H1 QB) : tOr t u σ H QB := h
theorem not_ (h : t σ H fun c H1 => QB (!c) H1) : tNot t σ H QB := h
theorem andV_ (h : ta σ H fun x H1 => ∃ c, x = .bl c ∧ if c = true then tb σ H1 Q else Q (.bl false) H1) : tAndV ta tb σ H Q := h
theorem orV_ (h : ta σ H fun x H1 => ∃ c, x = .bl c ∧ if c = true then Q (.bl true) H1 else tb σ H1 Q) : tOrV ta tb σ H Q := h
theorem notV_ (h : ta σ H fun x H1 => ∃ c, x = .bl c ∧ Q (.bl (!c)) H1) : tNotV ta σ H Q := h
theorem if_ (h : t σ H fun c H1 => if c = true then ta σ H1 Q else tb σ H1 Q) : tIf t ta tb σ H Q := h
theorem isN_ {x : V} (h : Q (.bl (decide (x = .non))) H) : (fun (x y : V) H (Q : VK) => y = .non ∧ Q (.bl (decide (x = .non))) H) x .non H Q := ⟨rfl, h⟩
theorem enon_ {P : Prop} (h : P) : V.non = .non ∧ P := ⟨rfl, h⟩
theorem yes_ {QT : Bool → Hp → Prop} (h : QT true H) : tYes σ H QT := h
/-! iterations -/
theorem itup_ {R : It → Hp → Prop} (h : te σ H fun x H1 => ∃ a, x = .ref a ∧ (∃ xs, SqT K H1 a xs) ∧ R (Itt K a) H1) : iTup K te σ H R := h
theorem ilst_ {R : It → Hp → Prop} (h : te σ H fun x H1 => ∃ a, x = .ref a ∧ (∃ xs, SqL K H1 a xs) ∧ R (Itl K a) H1) : iList K te σ H R := h
theorem irng1_ {R : It → Hp → Prop} (h : tr σ H fun vs H1 => ∃ j : Int, vs = [.int j] ∧ -(2 ^ 62) ≤ j ∧ j < 2 ^ 62 ∧ R (Itr 0 j.toNat) H1) : iRng1 tr σ H R := h
theorem irng2_ {R : It → Hp → Prop} (h : tr σ H fun vs H1 => ∃ i j : Int, vs = [.int i, .int j] ∧ (-(2 ^ 62) ≤ i ∧ i < 2 ^ 62 ∧ -(2 ^ 62) ≤ j ∧ j < 2 ^ 62) ∧ R (Itr i (j - i).toNat) H1) : iRng2 tr σ H R := h
theorem erng1_ {R : It → Hp → Prop} {i : Int} (hi : -(2 ^ 62) ≤ i ∧ i < 2 ^ 62) (h : R (Itr 0 i.toNat) H) : ∃ j : Int, [V.int i] = [.int j] ∧ -(2 ^ 62) ≤ j ∧ j < 2 ^ 62 ∧ R (Itr 0 j.toNat) H := ⟨i, rfl, hi.1, hi.2, h⟩
theorem etup_ {R : It → Hp → Prop} {p : Addr} {xs : List V} (hT : SqT K H p xs) (h : R (Itt K p) H) : ∃ a, V.ref p = .ref a ∧ (∃ xs, SqT K H a xs) ∧ R (Itt K a) H := ⟨p, rfl, ⟨xs, hT⟩, h⟩
theorem elst_ {R : It → Hp → Prop} {p : Addr} {xs : List V} (hT : SqL K H p xs) (h : R (Itl K p) H) : ∃ a, V.ref p = .ref a ∧ (∃ xs, SqL K H a xs) ∧ R (Itl K a) H := ⟨p, rfl, ⟨xs, hT⟩, h⟩
end
theorem iteT_ {b : Bool} {A B : Prop} (e : b = true) (h : A) : if b = true then A else B := by rw [if_pos e]; exact h
theorem iteF_ {b : Bool} {A B : Prop} (e : b = false) (h : B) : if b = true then A else B := by rw [e]; exact h
theorem ited_ {c A B : Prop} [Decidable c] (h1 : c → A) (h2 : ¬ c → B) : if decide c = true then A else B := by
  by_cases h : c
  · rw [if_pos (decide_eq_true h)]; exact h1 h
  · rw [if_neg (by rw [decide_eq_false h]; exact Bool.false_ne_true)]; exact h2 h
theorem itend_ {c A B : Prop} [Decidable c] (h1 : ¬ c → A) (h2 : c → B) : if (!decide c) = true then A else B := by
  by_cases h : c
  · rw [decide_eq_true h]; exact h2 h
  · rw [decide_eq_false h]; exact h1 h
theorem joinC_ {c : Bool} {x y : V} {σ : L2.St} {H : Hp} {Q : VK} (h : ∀ v, (v = x ∨ v = y) → Q v H) : if c = true then tC x σ H Q else tC y σ H Q := by
  cases c
  · exact h y (.inr rfl)
  · exact h x (.inl rfl)
theorem iteb_ {b : Bool} {A B : Prop} (h1 : b = true → A) (h2 : b = false → B) : if b = true then A else B := by
  cases b
  · exact h2 rfl
  · exact h1 rfl
theorem sz_ {n : Nat} {P : Prop} (h : Nat.ble n 1000 = true) (p : P) : n ≤ sizeLine ∧ P := ⟨Nat.le_of_lt (small1000 (Nat.le_of_ble_eq_true h)), p⟩
theorem size_ {n : Nat} (h : n ≤ 100000) : n ≤ sizeLine := Nat.le_trans h (by decide)
theorem isi_ {K : PySem.W.Frag} {x c : V} {t u : Value} {b : Bool} {H : Hp} {Q : VK} (k : ClsV c u) (ty : TyX K H x t) (e : PySem.W.kitOne K t u = some b) (q : Q (.bl b) H) : rIsi K [x, c] H Q := ⟨x, c, t, u, b, rfl, k, ty, e, q⟩

/-! ### a loop over a written tuple, turn by turn -/
def UnrT (K : PySem.W.Frag) (a : Addr) (all : List V) (g : TG) (tb : TS) (nx : L2.St → Hp → Prop) (rt : VK) : List V → L2.St → Hp → Prop
  | [], σ, H => SqT K H a all ∧ nx σ H
  | x :: xs, σ, H => SqT K H a all ∧ g x σ H fun σ2 H2 => tb ⟨UnrT K a all g tb nx rt xs, rt, nx, UnrT K a all g tb nx rt xs⟩ σ2 H2

theorem isi_int_int {K : PySem.W.Frag} {i : Int} {H : Hp} {Q : VK} (q : Q (.bl true) H) : rIsi K [.int i, .ty "int"] H Q := isi_ (.ty _) (.base (.int _)) (kit_ty (by decide +kernel)) q
theorem isi_int_bool {K : PySem.W.Frag} {i : Int} {H : Hp} {Q : VK} (q : Q (.bl false) H) : rIsi K [.int i, .ty "bool"] H Q := isi_ (.ty _) (.base (.int _)) (kit_ty (by decide +kernel)) q
theorem isi_bl_bool {K : PySem.W.Frag} {i : Bool} {H : Hp} {Q : VK} (q : Q (.bl true) H) : rIsi K [.bl i, .ty "bool"] H Q := isi_ (.ty _) (.base (.bl _)) (kit_ty (by decide +kernel)) q
theorem isi_bl_int {K : PySem.W.Frag} {i : Bool} {H : Hp} {Q : VK} (q : Q (.bl true) H) : rIsi K [.bl i, .ty "int"] H Q := isi_ (.ty _) (.base (.bl _)) (kit_ty (by decide +kernel)) q
def rInt1 : List V → Hp → VK → Prop := fun xs H Q => (∃ i, xs = [.int i] ∧ Q (.int i) H) ∨ ∃ k, xs = [.bl k] ∧ Q (.int (if k then 1 else 0)) H
theorem call_intU {X : Cx} : CallR X (.type "int") rInt1 := call_int1
theorem int_int_ {i : Int} {H : Hp} {Q : VK} (q : Q (.int i) H) : rInt1 [.int i] H Q := .inl ⟨i, rfl, q⟩
theorem int_bl_ {b : Bool} {H : Hp} {Q : VK} (q : Q (.int (if b then 1 else 0)) H) : rInt1 [.bl b] H Q := .inr ⟨b, rfl, q⟩
def rAbs : List V → Hp → VK → Prop := fun xs H Q => ∃ i, xs = [.int i] ∧ Q (.int (if i < 0 then -i else i)) H
theorem call_absU {X : Cx} : CallR X (.builtin "abs") rAbs := call_abs
theorem abs_ {i : Int} {H : Hp} {Q : VK} (q : Q (.int (if i < 0 then -i else i)) H) : rAbs [.int i] H Q := ⟨i, rfl, q⟩
def rMax2 : List V → Hp → VK → Prop := fun xs H Q => ∃ i j, xs = [.int i, .int j] ∧ Q (.int (if j > i then j else i)) H
theorem call_maxU {X : Cx} (hc : X.calm = true) : CallR X (.builtin "max") rMax2 := call_max2 hc
theorem max2_ {i j : Int} {H : Hp} {Q : VK} (q : Q (.int (if j > i then j else i)) H) : rMax2 [.int i, .int j] H Q := ⟨i, j, rfl, q⟩
def rMin2 : List V → Hp → VK → Prop := fun xs H Q => ∃ i j, xs = [.int i, .int j] ∧ Q (.int (if j < i then j else i)) H
theorem call_minU {X : Cx} (hc : X.calm = true) : CallR X (.builtin "min") rMin2 := call_min2 hc
theorem min2_ {i j : Int} {H : Hp} {Q : VK} (q : Q (.int (if j < i then j else i)) H) : rMin2 [.int i, .int j] H Q := ⟨i, j, rfl, q⟩
def rIsN : R2 := fun x y H Q => y = .non ∧ Q (.bl (decide (x = .non))) H
def rNotN : R2 := fun x y H Q => y = .non ∧ Q (.bl (!decide (x = .non))) H
theorem op_isNU {X : Cx} : OpR X (compareOp .Is) rIsN := op_isN
theorem op_notNU {X : Cx} : OpR X (compareOp .IsNot) rNotN := op_notN
theorem isN0_ {H : Hp} {Q : VK} (q : Q (.bl true) H) : rIsN .non .non H Q := ⟨rfl, q⟩
theorem isNi_ {i : Int} {H : Hp} {Q : VK} (q : Q (.bl false) H) : rIsN (.int i) .non H Q := ⟨rfl, q⟩
theorem isNr_ {i : Addr} {H : Hp} {Q : VK} (q : Q (.bl false) H) : rIsN (.ref i) .non H Q := ⟨rfl, q⟩
theorem isNs_ {i : Str} {H : Hp} {Q : VK} (q : Q (.bl false) H) : rIsN (.str i) .non H Q := ⟨rfl, q⟩
theorem notN0_ {H : Hp} {Q : VK} (q : Q (.bl false) H) : rNotN .non .non H Q := ⟨rfl, q⟩
theorem notNi_ {i : Int} {H : Hp} {Q : VK} (q : Q (.bl true) H) : rNotN (.int i) .non H Q := ⟨rfl, q⟩
theorem notNr_ {i : Addr} {H : Hp} {Q : VK} (q : Q (.bl true) H) : rNotN (.ref i) .non H Q := ⟨rfl, q⟩
theorem notNs_ {i : Str} {H : Hp} {Q : VK} (q : Q (.bl true) H) : rNotN (.str i) .non H Q := ⟨rfl, q⟩
theorem e1int_ {i : Int} {P : Int → Prop} (h : P i) : ∃ j, [V.int i] = [.int j] ∧ P j := ⟨i, rfl, h⟩
theorem e2int_ {i j : Int} {P : Int → Int → Prop} (h : P i j) : ∃ a b, [V.int i, V.int j] = [.int a, .int b] ∧ P a b := ⟨i, j, rfl, h⟩

/-! ### comprehensions over a name: P by the turn, what is made so far, the heap -/
section
variable {σ : L2.St} {H1 : Hp} {D : Addr} {Qd : Hp → Prop} {te : TE} {vs : List Nat} {j : Nat} {K : PySem.W.Frag}
/-- what a for's walk asks -/
def ForG (J : It) (g : TG) (tb : TS) (D : Ends) (σ : L2.St) (H1 : Hp) : Prop :=
  ∃ W : Nat → Nat → L2.St → Hp → Prop, (∃ m, W 0 m σ H1) ∧
    ∀ i m σ H, W i m σ H → (J.stop i H ∧ D.nx σ H) ∨
      (J.go i H ∧ ∃ N : L2.St → Hp → Prop, (∀ σ' H', N σ' H' → ∃ m', m' < m ∧ W (i + 1) m' σ' H') ∧
        ∀ x H', J.yld i H x H' → g x σ H' fun σ2 H2 => tb ⟨N, D.rt, D.nx, N⟩ σ2 H2)
theorem for_ {wi : TI} {g : TG} {tb : TS} {D : Ends} {H : Hp} (h : wi σ H fun J H1 => ForG J g tb D σ H1) : tFor wi g tb D σ H := h
/-- what a comprehension's walk asks: W by the turn and a measure -/
def LcG (J : It) (g : TG) (tt : TT) (te : TE) (vs : List Nat) (σ : L2.St) (D : Addr) (H1 : Hp) (Qd : Hp → Prop) : Prop :=
  ∃ W : Nat → Nat → Hp → Prop, (∃ m, W 0 m (upd H1 D (.lst []))) ∧
    ∀ i m H, W i m H → (J.stop i H ∧ Qd H) ∨
      (J.go i H ∧ ∃ Nx : Hp → Prop, (∀ H', Nx H' → ∃ m', m' < m ∧ W (i + 1) m' H') ∧
        ∀ x H', J.yld i H x H' → g x (wipe σ vs) H' fun σ2 H2 =>
          wipe σ2 vs = wipe σ vs ∧ tt σ2 H2 fun b H3 => if b = true
            then te σ2 H3 fun y H4 => ∃ acc, H4 D = some (.lst acc) ∧
              acc.length < sizeLine ∧ Nx (upd H4 D (.lst (acc ++ [y])))
            else Nx H3)
theorem lc_ {wi : TI} {g : TG} {tt : TT} {Q : VK} {H : Hp} (h : wi σ H fun J H1 => ∀ D, H1 D = none → LcG J g tt te vs σ D H1 fun H2 => Q (.ref D) H2) : tLc wi g tt te vs σ H Q := h
def Lw (P : Nat → List V → Hp → Prop) (n : Nat) (D : Addr) (i : Nat) (H : Hp) : Prop := ∃ ys : List V, ys.length = i ∧ i ≤ n ∧ P i ys H ∧ H D = some (.lst ys)
def LcK (P : Nat → List V → Hp → Prop) (n : Nat) (D : Addr) (i : Nat) : VK := fun y H4 => ∃ acc, H4 D = some (.lst acc) ∧ acc.length < sizeLine ∧ Lw P n D (i + 1) (upd H4 D (.lst (acc ++ [y])))
theorem lcK_ {P : Nat → List V → Hp → Prop} {n : Nat} {D : Addr} {i : Nat} {ys : List V} {y : V} {H4 : Hp} (hD : H4 D = some (.lst ys)) (hl : ys.length = i) (hi : i < n) (hn : n ≤ 100000) (h : P (i + 1) (ys ++ [y]) (upd H4 D (.lst (ys ++ [y])))) : LcK P n D i y H4 :=
  ⟨ys, hD, Nat.lt_of_lt_of_le (show ys.length < 100000 by omega) (by decide), ys ++ [y], by rw [List.length_append, hl]; rfl, hi, h, upd_same⟩
theorem lcR {lo : Int} {n : Nat} (P : Nat → List V → Hp → Prop) (hw : ∀ x, wipe ((wipe σ vs).set j (some x)) vs = wipe σ vs) (h0 : P 0 [] (upd H1 D (.lst [])))
    (hs : ∀ i ys H, i < n → ys.length = i → P i ys H → H D = some (.lst ys) → te ((wipe σ vs).set j (some (.int (lo + (i : Int))))) H (LcK P n D i))
    (hd : ∀ ys H, ys.length = n → P n ys H → H D = some (.lst ys) → Qd H) :
    LcG (Itr lo n) (gName j) tYes te vs σ D H1 Qd := by
  refine lc_range (Lw P n D) ⟨[], rfl, Nat.zero_le _, h0, upd_same⟩ (fun i H hi p => ?_) fun H p => ?_
  · obtain ⟨ys, hl, _, hp, hD⟩ := p
    refine ⟨hw _, ?_⟩
    unfold tYes
    dsimp only
    rw [if_pos rfl]
    exact hs i ys H hi hl hp hD
  · obtain ⟨ys, hl, _, hp, hD⟩ := p
    exact hd ys H hl hp hD
theorem lcT {a : Addr} {xs : List V} (P : Nat → List V → Hp → Prop) (hw : ∀ x, wipe ((wipe σ vs).set j (some x)) vs = wipe σ vs) (h0 : P 0 [] (upd H1 D (.lst [])))
    (ht : ∀ i ys H, P i ys H → SqT K H a xs)
    (hs : ∀ i x ys H, xs[i]? = some x → i < xs.length → ys.length = i → P i ys H → H D = some (.lst ys) → te ((wipe σ vs).set j (some x)) H (LcK P xs.length D i))
    (hd : ∀ ys H, ys.length = xs.length → P xs.length ys H → H D = some (.lst ys) → Qd H) :
    LcG (Itt K a) (gName j) tYes te vs σ D H1 Qd := by
  refine lc_tup (xs := xs) (Lw P xs.length D) ⟨[], rfl, Nat.zero_le _, h0, upd_same⟩ (fun i H _ p => ?_) (fun i x H hx p => ?_) fun H p => ?_
  · obtain ⟨ys, _, _, hp, _⟩ := p
    exact ht i ys H hp
  · obtain ⟨ys, hl, _, hp, hD⟩ := p
    refine ⟨hw _, ?_⟩
    unfold tYes
    dsimp only
    rw [if_pos rfl]
    exact hs i x ys H hx (List.getElem?_eq_some_iff.mp hx).1 hl hp hD
  · obtain ⟨ys, hl, _, hp, hD⟩ := p
    exact hd ys H hl hp hD
theorem lcL {a : Addr} {xs : List V} (P : Nat → List V → Hp → Prop) (hw : ∀ x, wipe ((wipe σ vs).set j (some x)) vs = wipe σ vs) (h0 : P 0 [] (upd H1 D (.lst [])))
    (ht : ∀ i ys H, P i ys H → SqL K H a xs)
    (hs : ∀ i x ys H, xs[i]? = some x → i < xs.length → ys.length = i → P i ys H → H D = some (.lst ys) → te ((wipe σ vs).set j (some x)) H (LcK P xs.length D i))
    (hd : ∀ ys H, ys.length = xs.length → P xs.length ys H → H D = some (.lst ys) → Qd H) :
    LcG (Itl K a) (gName j) tYes te vs σ D H1 Qd := by
  refine lc_list (xs := xs) (Lw P xs.length D) ⟨[], rfl, Nat.zero_le _, h0, upd_same⟩ (fun i H _ p => ?_) (fun i x H hx p => ?_) fun H p => ?_
  · obtain ⟨ys, _, _, hp, _⟩ := p
    exact ht i ys H hp
  · obtain ⟨ys, hl, _, hp, hD⟩ := p
    refine ⟨hw _, ?_⟩
    unfold tYes
    dsimp only
    rw [if_pos rfl]
    exact hs i x ys H hx (List.getElem?_eq_some_iff.mp hx).1 hl hp hD
  · obtain ⟨ys, hl, _, hp, hD⟩ := p
    exact hd ys H hl hp hD
/-- a loop over a tuple that stands still, turn by turn -/
theorem unrT {a : Addr} {xs : List V} {g : TG} {tb : TS} {nx bk ct : L2.St → Hp → Prop} {rt : VK} {H : Hp} (h : UnrT K a xs g tb nx rt xs σ H) :
    ForG (Itt K a) g tb ⟨nx, rt, bk, ct⟩ σ H := by
  refine for_tup (D := ⟨nx, rt, bk, ct⟩) (xs := xs) (fun i σ H => UnrT K a xs g tb nx rt (xs.drop i) σ H) h (fun i σ H hi p => ?_) (fun i x σ H hx p => ?_) fun σ H p => ?_
  · cases e : xs.drop i with
    | nil => rw [e] at p; exact p.1
    | cons y ys => rw [e] at p; exact p.1
  · have hi : i < xs.length := (List.getElem?_eq_some_iff.mp hx).1
    have e : xs.drop i = x :: xs.drop (i + 1) := by
      rw [List.drop_eq_getElem_cons hi]
      have := (List.getElem?_eq_some_iff.mp hx).2
      rw [this]
    rw [e] at p
    exact p.2
  · rw [List.drop_length] at p
    exact p.2
end
/-! ### comprehensions whose elements change nothing: f of each item -/
theorem same_upd {H H' : Hp} {D : Addr} {o : HO} (e : Same H H') (h : H D = none) : Same H (upd H' D o) := fun b x hb => by
  rw [upd_ne (ne_of_none hb h)]; exact e b x hb
theorem same_new {H : Hp} {p : Addr} {o : HO} (h : H p = none) : Same H (upd H p o) := same_upd (Same.refl H) h
theorem same_sqt {K : PySem.W.Frag} {H H' : Hp} {a : Addr} {xs : List V} (e : Same H H') (h : SqT K H a xs) : SqT K H' a xs := by
  rcases h with (h | ⟨o, h⟩) | h
  · exact .inl (.inl (e _ _ h))
  · exact .inl (.inr ⟨o, e _ _ h⟩)
  · exact .inr h
section
variable {σ : L2.St} {H1 : Hp} {D : Addr} {Qd : Hp → Prop} {te : TE} {vs : List Nat} {j : Nat} {K : PySem.W.Frag}
theorem lcTp {a : Addr} {xs : List V} (f : V → V) (hT : SqT K H1 a xs) (hn : H1 D = none) (hl : Nat.ble xs.length 100000 = true) (hw : ∀ x, wipe ((wipe σ vs).set j (some x)) vs = wipe σ vs)
    (hs : ∀ (i : Nat) (x : V) (H' : Hp) (R : VK), xs[i]? = some x → Same H1 H' → (∀ H4, Same H' H4 → R (f x) H4) → te ((wipe σ vs).set j (some x)) H' R)
    (hd : ∀ H', Same H1 H' → H' D = some (.lst (xs.map f)) → Qd H') :
    LcG (Itt K a) (gName j) tYes te vs σ D H1 Qd := by
  refine lcT (xs := xs) (fun i ys H' => ys = (xs.take i).map f ∧ Same H1 H') hw ⟨rfl, same_new hn⟩ (fun i ys H' p => same_sqt p.2 hT) (fun i x ys H' hx hi hy p hD => ?_) fun ys H' hy p hD => ?_
  · refine hs i x H' _ hx p.2 fun H4 e4 => lcK_ (e4 _ _ hD) hy hi (Nat.le_of_ble_eq_true hl) ⟨?_, same_upd (p.2.trans e4) hn⟩
    rw [p.1, List.take_add_one, hx, List.map_append]; rfl
  · refine hd H' p.2 ?_
    rw [hD, p.1, List.take_length]
theorem lcLp {a : Addr} {xs : List V} (f : V → V) (hT : SqL K H1 a xs) (hn : H1 D = none) (hl : Nat.ble xs.length 100000 = true) (hw : ∀ x, wipe ((wipe σ vs).set j (some x)) vs = wipe σ vs)
    (hs : ∀ (i : Nat) (x : V) (H' : Hp) (R : VK), xs[i]? = some x → Same H1 H' → (∀ H4, Same H' H4 → R (f x) H4) → te ((wipe σ vs).set j (some x)) H' R)
    (hd : ∀ H', Same H1 H' → H' D = some (.lst (xs.map f)) → Qd H') :
    LcG (Itl K a) (gName j) tYes te vs σ D H1 Qd := by
  refine lcL (xs := xs) (fun i ys H' => ys = (xs.take i).map f ∧ Same H1 H') hw ⟨rfl, same_new hn⟩ (fun i ys H' p => p.2.seq hT) (fun i x ys H' hx hi hy p hD => ?_) fun ys H' hy p hD => ?_
  · refine hs i x H' _ hx p.2 fun H4 e4 => lcK_ (e4 _ _ hD) hy hi (Nat.le_of_ble_eq_true hl) ⟨?_, same_upd (p.2.trans e4) hn⟩
    rw [p.1, List.take_add_one, hx, List.map_append]; rfl
  · refine hd H' p.2 ?_
    rw [hD, p.1, List.take_length]
end
/-! ### one object may change -/
def Kept (a : Addr) (H H' : Hp) : Prop := ∀ b o, b ≠ a → H b = some o → H' b = some o
theorem Kept.refl (a : Addr) (H : Hp) : Kept a H H := fun _ _ _ h => h
theorem Kept.trans {a : Addr} {H H1 H2 : Hp} (x : Kept a H H1) (y : Kept a H1 H2) : Kept a H H2 := fun b o n h => y b o n (x b o n h)
theorem kept_same {a : Addr} {H H' : Hp} (e : Same H H') : Kept a H H' := fun b o _ h => e b o h
theorem kept_upd {a : Addr} {H H' : Hp} {o : HO} (x : Kept a H H') : Kept a H (upd H' a o) := fun b u n h => by rw [upd_ne n]; exact x b u n h
theorem kept_new {a D : Addr} {H H' : Hp} {o : HO} (x : Kept a H H') (h : H' D = none) : Kept a H (upd H' D o) := fun b u n hb => by rw [upd_ne (ne_of_none (x b u n hb) h)]; exact x b u n hb
theorem kept_sql {a : Addr} {K : PySem.W.Frag} {H H' : Hp} {c : Addr} {xs : List V} (x : Kept a H H') (n : c ≠ a) (h : SqL K H c xs) : SqL K H' c xs := by
  rcases h with (h | ⟨o, h⟩) | h
  · exact .inl (.inl (x _ _ n h))
  · exact .inl (.inr ⟨o, x _ _ n h⟩)
  · exact .inr h
theorem kept_sqt {a : Addr} {K : PySem.W.Frag} {H H' : Hp} {c : Addr} {xs : List V} (x : Kept a H H') (n : c ≠ a) (h : SqT K H c xs) : SqT K H' c xs := by
  rcases h with (h | ⟨o, h⟩) | h
  · exact .inl (.inl (x _ _ n h))
  · exact .inl (.inr ⟨o, x _ _ n h⟩)
  · exact .inr h

/-! ### the reel of a law: cells, how many were begun, what is left of a great one -/
structure Hat (H : Hp) (a c : Addr) (ns : List Int) (n : Nat) : Prop where
  ex : ∃ t r : Int, H a = some (.lst [.ref c, .int t, .int r]) ∧ 0 ≤ t ∧ t ≤ n
  ne : c ≠ a
  cs : H c = some (.lst (ns.map V.int))
  le : ns.length ≤ 63
theorem Hat.at {H : Hp} {a c : Addr} {ns : List Int} {n : Nat} (h : Hat H a c ns n) : ∃ o, H a = Option.some o := by
  obtain ⟨t, r, e, _⟩ := h.ex
  exact ⟨_, e⟩
theorem Hat.na {H : Hp} {a c p : Addr} {ns : List Int} {n : Nat} (h : Hat H a c ns n) (hp : H p = none) : p ≠ a := by
  obtain ⟨o, e⟩ := h.at
  exact (ne_of_none e hp).symm
theorem Hat.nc {H : Hp} {a c p : Addr} {ns : List Int} {n : Nat} (h : Hat H a c ns n) (hp : H p = none) : p ≠ c := (ne_of_none h.cs hp).symm
theorem Hat.same {H H' : Hp} {a c : Addr} {ns : List Int} {n : Nat} (h : Hat H a c ns n) (e : Same H H') : Hat H' a c ns n := by
  obtain ⟨⟨t, r, h, h0⟩, h1, h2, h3⟩ := h
  exact ⟨⟨t, r, e _ _ h, h0⟩, h1, e _ _ h2, h3⟩
theorem Hat.mono {H : Hp} {a c : Addr} {ns : List Int} {n m : Nat} (h : Hat H a c ns n) (e : n ≤ m) : Hat H a c ns m := by
  obtain ⟨⟨t, r, h, h0, h4⟩, h1, h2, h3⟩ := h
  exact ⟨⟨t, r, h, h0, by omega⟩, h1, h2, h3⟩
theorem Hat.upd {H : Hp} {a c D : Addr} {ns : List Int} {n : Nat} {o : HO} (h : Hat H a c ns n) (hD : D ≠ a) (hc : D ≠ c) : Hat (L2.upd H D o) a c ns n := by
  obtain ⟨⟨t, r, h, h0⟩, h1, h2, h3⟩ := h
  exact ⟨⟨t, r, by rw [upd_ne hD.symm]; exact h, h0⟩, h1, by rw [upd_ne hc.symm]; exact h2, h3⟩
theorem Hat.new {H : Hp} {a c D : Addr} {ns : List Int} {n : Nat} {o : HO} (h : Hat H a c ns n) (hD : H D = none) : Hat (L2.upd H D o) a c ns n := h.upd (h.na hD) (h.nc hD)
theorem kept_at {a D : Addr} {H H' : Hp} {o : HO} (x : Kept a H H') (h : H D = none) : Kept a H (L2.upd H' D o) := fun b u n hb => by rw [upd_ne (ne_of_none hb h)]; exact x b u n hb
/-- a comprehension over a range whose elements draw: dn draws a turn at most, R of what is made so far -/
theorem lcRd {σ : L2.St} {H1 : Hp} {D : Addr} {Qd : Hp → Prop} {te : TE} {vs : List Nat} {j : Nat} {a c : Addr} {ns : List Int} {n dn k : Nat} {lo : Int} (R : Nat → List V → Prop)
    (hh : Hat H1 a c ns n) (hD : H1 D = none) (hk : k ≤ 100000) (hw : ∀ x, wipe ((wipe σ vs).set j (some x)) vs = wipe σ vs) (h0 : R 0 [])
    (hs : ∀ (i : Nat) (ys : List V) (H' : Hp) (Q : VK), i < k → ys.length = i → R i ys → Kept a H1 H' → Hat H' a c ns (n + dn * i) → (∀ y H4, Kept a H' H4 → Hat H4 a c ns (n + dn * (i + 1)) → R (i + 1) (ys ++ [y]) → Q y H4) → te ((wipe σ vs).set j (some (.int (lo + (i : Int))))) H' Q)
    (hd : ∀ (ys : List V) (H' : Hp), ys.length = k → R k ys → Kept a H1 H' → Hat H' a c ns (n + dn * k) → H' D = some (.lst ys) → Qd H') :
    LcG (Itr lo k) (gName j) tYes te vs σ D H1 Qd := by
  have da := hh.na hD
  have dc := hh.nc hD
  refine lcR (fun i ys H' => R i ys ∧ Kept a H1 H' ∧ Hat H' a c ns (n + dn * i)) hw ⟨h0, kept_at (Kept.refl _ _) hD, hh.new hD⟩ (fun i ys H' hi hy p hDy => ?_) fun ys H' hy p hDy => ?_
  · exact hs i ys H' _ hi hy p.1 p.2.1 p.2.2 fun y H4 k4 h4 r4 => lcK_ (k4 _ _ da hDy) hy hi hk ⟨r4, kept_at (p.2.1.trans k4) hD, h4.upd da dc⟩
  · exact hd ys H' hy p.1 p.2.1 p.2.2 hDy
theorem lcTd {K : PySem.W.Frag} {σ : L2.St} {H1 : Hp} {D : Addr} {Qd : Hp → Prop} {te : TE} {vs : List Nat} {j : Nat} {a c b : Addr} {ns : List Int} {n dn : Nat} {xs : List V} (R : Nat → List V → Prop) (hT : SqT K H1 b xs) (hb : b ≠ a)
    (hh : Hat H1 a c ns n) (hD : H1 D = none) (hk : xs.length ≤ 100000) (hw : ∀ x, wipe ((wipe σ vs).set j (some x)) vs = wipe σ vs) (h0 : R 0 [])
    (hs : ∀ (i : Nat) (x : V) (ys : List V) (H' : Hp) (Q : VK), xs[i]? = some x → ys.length = i → R i ys → Kept a H1 H' → Hat H' a c ns (n + dn * i) → (∀ y H4, Kept a H' H4 → Hat H4 a c ns (n + dn * (i + 1)) → R (i + 1) (ys ++ [y]) → Q y H4) → te ((wipe σ vs).set j (some x)) H' Q)
    (hd : ∀ (ys : List V) (H' : Hp), ys.length = xs.length → R xs.length ys → Kept a H1 H' → Hat H' a c ns (n + dn * xs.length) → H' D = some (.lst ys) → Qd H') :
    LcG (Itt K b) (gName j) tYes te vs σ D H1 Qd := by
  have da := hh.na hD
  have dc := hh.nc hD
  refine lcT (xs := xs) (fun i ys H' => R i ys ∧ Kept a H1 H' ∧ Hat H' a c ns (n + dn * i)) hw ⟨h0, kept_at (Kept.refl _ _) hD, hh.new hD⟩ (fun i ys H' p => kept_sqt p.2.1 hb hT) (fun i x ys H' hx hi hy p hDy => ?_) fun ys H' hy p hDy => ?_
  · exact hs i x ys H' _ hx hy p.1 p.2.1 p.2.2 fun y H4 k4 h4 r4 => lcK_ (k4 _ _ da hDy) hy hi hk ⟨r4, kept_at (p.2.1.trans k4) hD, h4.upd da dc⟩
  · exact hd ys H' hy p.1 p.2.1 p.2.2 hDy
theorem at_int {ns : List Int} {z : Int} (h0 : 0 ≤ z) (h1 : z < ns.length) : ∃ v, atI (ns.map V.int) z = some (.int v) := by
  obtain ⟨k, rfl⟩ := Int.eq_ofNat_of_zero_le h0
  have hk : k < ns.length := by omega
  exact ⟨ns[k], atI_nat (by rw [List.getElem?_map, List.getElem?_eq_getElem hk]; rfl)⟩
theorem at_some {xs : List V} {z : Int} (h0 : 0 ≤ z) (h1 : z < xs.length) : ∃ v, atI xs z = some v ∧ v ∈ xs := by
  obtain ⟨k, rfl⟩ := Int.eq_ofNat_of_zero_le h0
  have hk : k < xs.length := by omega
  exact ⟨xs[k], atI_nat (List.getElem?_eq_getElem hk), List.getElem_mem hk⟩
theorem cut_to (xs : List V) (k : Nat) : cutV xs none (some (k : Int)) = xs.take k := by
  unfold cutV
  rw [HT.sIx_none, HT.sIx_nat, List.drop_zero, Nat.sub_zero]
  by_cases h : k ≤ xs.length
  · rw [Nat.min_eq_left h]
  · rw [Nat.min_eq_right (by omega), List.take_of_length_le (Nat.le_refl _), List.take_of_length_le (by omega)]
/-- xs != [] of ints -/
theorem ne_nil_ {K : PySem.W.Frag} {H : Hp} {Q : VK} {c e : Addr} {ns : List Int} (hc : SqL K H c (ns.map V.int)) (he : SqL K H e []) (h : Q (.bl (!ns.isEmpty)) H) : rNeU K (.ref c) (.ref e) H Q := by
  have dp : ∀ ns : List Int, DpAll K H (ns.map V.int) (ns.map PyData.int) := fun ns => by
    induction ns with
    | nil => exact .nil
    | cons n r ih => exact .cons (.int n) ih
  refine .inr ⟨.list (ns.map PyData.int), .list [], .lst hc (dp ns), .lst he .nil, PySem.W.shaped_ints ns, PySem.W.shaped_ints [], ?_⟩
  have e2 : PyData.eqv (.list (ns.map PyData.int)) (.list []) = ns.isEmpty := by
    cases ns with
    | nil => simp [PyData.eqv, PyData.eqvAll]
    | cons n r => simp [PyData.eqv, PyData.eqvAll]
  rw [e2]; exact h
end HX
/-! the words of a walk: hs one step, hr as many as go, hw the slots behind a wipe -/
local macro_rules | `(tactic| walk_at "h1") => `(tactic| with_reducible first
  | refine HX.seq_ ?_ | refine HX.asg_ ?_ | refine HX.op_ ?_ | refine HX.varS_ ?_ | refine HX.var0_ ?_ | refine HX.c_ ?_ | refine HX.gn0_ ?_ | refine HX.gnS_ ?_
  | refine HX.cons_ ?_ | refine HX.nil_ ?_ | refine HX.call_ ?_ | refine HX.cb_ ?_ | refine HX.ifS_ ?_ | refine HX.next_ ?_ | refine HX.ret_ ?_ | refine HX.drop_ ?_
  | refine HX.test_ ?_ | refine HX.b_ ?_ | refine HX.not_ ?_ | refine HX.and_ ?_ | refine HX.or_ ?_ | refine HX.notV_ ?_ | refine HX.andV_ ?_ | refine HX.orV_ ?_ | refine HX.if_ ?_
  | refine HX.i0_ ?_ | refine HX.add_int_ ?_ | refine HX.eq_int_ ?_ | refine HX.ne_int_ ?_ | refine HX.eq_bl_ ?_ | refine HX.ne_bl_ ?_ | refine HX.eq_str_ ?_ | refine HX.ne_str_ ?_
  | refine HX.un_ ?_ | refine HX.u_ ?_ | refine HX.tup_ ?_ | refine HX.lst_ ?_ | refine HX.ebl_ ?_ | refine HX.eint_ ?_ | refine HX.e1int_ ?_ | refine HX.e2int_ ?_
  | refine HX.isi_int_int ?_ | refine HX.isi_int_bool ?_ | refine HX.isi_bl_bool ?_ | refine HX.isi_bl_int ?_ | refine HX.int_int_ ?_ | refine HX.int_bl_ ?_
  | refine HX.par_ ?_ | refine HX.par3_ ?_ | refine HX.e2_ ?_ | refine HX.e3_ ?_ | refine HX.gcons_ ?_ | refine HX.gnil_ ?_ | refine HX.gsub_ ?_ | refine HX.enon_ ?_
  | refine HX.sl_ ?_ | refine HX.nopart_ ?_ | refine HX.part_ ?_ | refine HX.itup_ ?_ | refine HX.ilst_ ?_ | refine HX.irng1_ ?_ | refine HX.irng2_ ?_
  | refine HX.abs_ ?_ | refine HX.max2_ ?_ | refine HX.min2_ ?_ | refine HX.isN0_ ?_ | refine HX.isNi_ ?_ | refine HX.isNr_ ?_ | refine HX.isNs_ ?_ | refine HX.notN0_ ?_ | refine HX.notNi_ ?_ | refine HX.notNr_ ?_ | refine HX.notNs_ ?_
  | refine HX.for_ ?_ | refine HX.lc_ ?_ | refine HX.brk_ ?_ | refine HX.cont_ ?_ | refine HX.retN_ ?_ | refine HX.yes_ ?_)
local macro_rules | `(tactic| walk_at "h2") => `(tactic| first
  | ((with_reducible refine HX.iteT_ ?e ?_); (case e => (with_reducible rfl)))
  | ((with_reducible refine HX.iteF_ ?e ?_); (case e => (with_reducible rfl)))
  | ((with_reducible refine HX.iteT_ ?e ?_); (case e => first | rfl | (refine decide_eq_true ?_; first | assumption | omega)))
  | ((with_reducible refine HX.iteF_ ?e ?_); (case e => first | rfl | (refine decide_eq_false ?_; first | assumption | omega))))
local macro_rules | `(tactic| walk_at "h3") => `(tactic| first
  | ((with_reducible refine HX.i_ ?c ?_); (case c => first | (show (0 : Int) < _; omega) | (show HX.CMulU _ _; first | (refine HX.CMulU.l ?_; constructor <;> omega) | (refine HX.CMulU.r ?_; constructor <;> omega)) | (show L2.CDiv _ _; constructor <;> omega) | (show L2.CPow _ _; refine ⟨?_, ?_, ?_⟩ <;> omega)))
  | ((with_reducible refine HX.mod_ ?c ?_); (case c => omega))
  | ((with_reducible refine HX.sz_ ?c ?_); (case c => rfl)))
local macro_rules | `(tactic| walk_at "hu") => `(tactic| fail)
local macro_rules | `(tactic| walk_at "hs") => `(tactic| first | walk_at "h1" | walk_at "h3" | walk_at "h2" | walk_at "hu")
local macro_rules | `(tactic| walk_at "hr") => `(tactic| repeat (walk_at "hs"))
local macro_rules | `(tactic| walk_at "hw") => `(tactic| simp only [L2.wipe, List.map_cons, List.map_nil, List.set_cons_zero, List.set_cons_succ])
namespace K18
open PySem PySem.Spec PyProof.Rows L2 HX
def topS (i : Nat) : Stmt := PySem.Challenge.pw_fourthlike_k18_numbers_by_steps_and_by_t.main.body.getD i (.Pass ⟨0, 0, 0, 0⟩)
abbrev s_is_integer : Stmt := (topS 1)
abbrev n_is_integer : List Str := ["value"]
theorem sc_is_integer : FnScope n_is_integer ["value"] (defScope s_is_integer) := ⟨rfl, rfl, rfl, by decide +kernel, rfl, by decide +kernel, by decide +kernel⟩
abbrev s_is_within : Stmt := (topS 2)
abbrev n_is_within : List Str := ["value", "least", "most"]
theorem sc_is_within : FnScope n_is_within ["value", "least", "most"] (defScope s_is_within) := ⟨rfl, rfl, rfl, by decide +kernel, rfl, by decide +kernel, by decide +kernel⟩
abbrev s_need_number : Stmt := (topS 9)
abbrev n_need_number : List Str := ["value", "part", "least", "most"]
theorem sc_need_number : FnScope n_need_number ["value", "part", "least", "most"] (defScope s_need_number) := ⟨rfl, rfl, rfl, by decide +kernel, rfl, by decide +kernel, by decide +kernel⟩
abbrev s_need_power : Stmt := (topS 10)
abbrev n_need_power : List Str := ["power"]
theorem sc_need_power : FnScope n_need_power ["power"] (defScope s_need_power) := ⟨rfl, rfl, rfl, by decide +kernel, rfl, by decide +kernel, by decide +kernel⟩
abbrev s_raised : Stmt := (topS 11)
abbrev n_raised : List Str := ["number", "many", "found", "_"]
theorem sc_raised : FnScope n_raised ["number", "many"] (defScope s_raised) := ⟨rfl, rfl, rfl, by decide +kernel, rfl, by decide +kernel, by decide +kernel⟩
abbrev s_lifted : Stmt := (topS 12)
abbrev n_lifted : List Str := ["a", "b", "c", "d", "power", "number"]
theorem sc_lifted : FnScope n_lifted ["a", "b", "c", "d", "power"] (defScope s_lifted) := ⟨rfl, rfl, rfl, by decide +kernel, rfl, by decide +kernel, by decide +kernel⟩
abbrev s_sum_at : Stmt := (topS 13)
abbrev n_sum_at : List Str := ["a", "b", "c", "d", "power", "first", "second", "third", "last"]
theorem sc_sum_at : FnScope n_sum_at ["a", "b", "c", "d", "power"] (defScope s_sum_at) := ⟨rfl, rfl, rfl, by decide +kernel, rfl, by decide +kernel, by decide +kernel⟩
abbrev s_need_four : Stmt := (topS 14)
abbrev n_need_four : List Str := ["a", "b", "c", "d", "power", "value", "part"]
theorem sc_need_four : FnScope n_need_four ["a", "b", "c", "d", "power"] (defScope s_need_four) := ⟨rfl, rfl, rfl, by decide +kernel, rfl, by decide +kernel, by decide +kernel⟩
abbrev s_sign_at : Stmt := (topS 15)
abbrev n_sign_at : List Str := ["a", "b", "c", "d", "power", "found"]
theorem sc_sign_at : FnScope n_sign_at ["a", "b", "c", "d", "power"] (defScope s_sign_at) := ⟨rfl, rfl, rfl, by decide +kernel, rfl, by decide +kernel, by decide +kernel⟩
abbrev s_holds_by : Stmt := (topS 16)
abbrev n_holds_by : List Str := ["a", "b", "c", "d", "power"]
theorem sc_holds_by : FnScope n_holds_by ["a", "b", "c", "d", "power"] (defScope s_holds_by) := ⟨rfl, rfl, rfl, by decide +kernel, rfl, by decide +kernel, by decide +kernel⟩
abbrev s_is_by : Stmt := (topS 17)
abbrev n_is_by : List Str := ["a", "b", "c", "d", "power"]
theorem sc_is_by : FnScope n_is_by ["a", "b", "c", "d", "power"] (defScope s_is_by) := ⟨rfl, rfl, rfl, by decide +kernel, rfl, by decide +kernel, by decide +kernel⟩
abbrev s__law_hat : Stmt := (topS 19)
abbrev n__law_hat : List Str := ["script", "cell"]
theorem sc__law_hat : FnScope n__law_hat ["script"] (defScope s__law_hat) := ⟨rfl, rfl, rfl, by decide +kernel, rfl, by decide +kernel, by decide +kernel⟩
abbrev s__law_lot : Stmt := (topS 20)
abbrev n__law_lot : List Str := ["hat", "many", "digit", "at", "cell", "great", "mixed"]
theorem sc__law_lot : FnScope n__law_lot ["hat", "many"] (defScope s__law_lot) := ⟨rfl, rfl, rfl, by decide +kernel, rfl, by decide +kernel, by decide +kernel⟩
abbrev s__law_one : Stmt := (topS 21)
abbrev n__law_one : List Str := ["hat", "some"]
theorem sc__law_one : FnScope n__law_one ["hat", "some"] (defScope s__law_one) := ⟨rfl, rfl, rfl, by decide +kernel, rfl, by decide +kernel, by decide +kernel⟩
abbrev s__law_raised : Stmt := (topS 22)
abbrev n__law_raised : List Str := ["number", "many", "found", "turn"]
theorem sc__law_raised : FnScope n__law_raised ["number", "many"] (defScope s__law_raised) := ⟨rfl, rfl, rfl, by decide +kernel, rfl, by decide +kernel, by decide +kernel⟩
abbrev s__law_sum : Stmt := (topS 23)
abbrev n__law_sum : List Str := ["a", "b", "c", "d", "power", "many"]
theorem sc__law_sum : FnScope n__law_sum ["a", "b", "c", "d", "power"] (defScope s__law_sum) := ⟨rfl, rfl, rfl, by decide +kernel, rfl, by decide +kernel, by decide +kernel⟩
abbrev s__law_sign : Stmt := (topS 24)
abbrev n__law_sign : List Str := ["number"]
theorem sc__law_sign : FnScope n__law_sign ["number"] (defScope s__law_sign) := ⟨rfl, rfl, rfl, by decide +kernel, rfl, by decide +kernel, by decide +kernel⟩
abbrev s__law_is_by : Stmt := (topS 25)
abbrev n__law_is_by : List Str := ["a", "b", "c", "d", "power"]
theorem sc__law_is_by : FnScope n__law_is_by ["a", "b", "c", "d", "power"] (defScope s__law_is_by) := ⟨rfl, rfl, rfl, by decide +kernel, rfl, by decide +kernel, by decide +kernel⟩
abbrev s__law_steps : Stmt := (topS 26)
abbrev n__law_steps : List Str := ["hat", "most", "one", "other", "step"]
theorem sc__law_steps : FnScope n__law_steps ["hat", "most"] (defScope s__law_steps) := ⟨rfl, rfl, rfl, by decide +kernel, rfl, by decide +kernel, by decide +kernel⟩
abbrev s__law_squares : Stmt := (topS 27)
abbrev n__law_squares : List Str := ["hat", "turn", "k", "m", "n", "o", "a", "b", "c", "d"]
theorem sc__law_squares : FnScope n__law_squares ["hat"] (defScope s__law_squares) := ⟨rfl, rfl, rfl, by decide +kernel, rfl, by decide +kernel, by decide +kernel⟩
abbrev s__law_four : Stmt := (topS 28)
abbrev n__law_four : List Str := ["hat", "way", "turn", "k", "m", "n", "o", "some", "whole", "number", "one", "other"]
theorem sc__law_four : FnScope n__law_four ["hat"] (defScope s__law_four) := ⟨rfl, rfl, rfl, by decide +kernel, rfl, by decide +kernel, by decide +kernel⟩
abbrev s__law_turned_right : Stmt := (topS 29)
abbrev n__law_turned_right : List Str := ["a", "b", "c", "d", "power", "told", "one", "two", "three", "four"]
theorem sc__law_turned_right : FnScope n__law_turned_right ["a", "b", "c", "d", "power", "told"] (defScope s__law_turned_right) := ⟨rfl, rfl, rfl, by decide +kernel, rfl, by decide +kernel, by decide +kernel⟩
abbrev s__law_chained_right : Stmt := (topS 30)
abbrev n__law_chained_right : List Str := ["hat", "a", "b", "c", "d", "power", "e", "f"]
theorem sc__law_chained_right : FnScope n__law_chained_right ["hat", "a", "b", "c", "d"] (defScope s__law_chained_right) := ⟨rfl, rfl, rfl, by decide +kernel, rfl, by decide +kernel, by decide +kernel⟩
abbrev s_law : Stmt := (topS 31)
abbrev n_law : List Str := ["script", "hat", "lap", "a", "b", "c", "d", "wide", "power", "due", "sign", "told"]
theorem sc_law : FnScope n_law ["script"] (defScope s_law) := ⟨rfl, rfl, rfl, by decide +kernel, rfl, by decide +kernel, by decide +kernel⟩
structure Tx (K : PySem.W.Frag) (mg : Str → Option Value) where
  f_is_integer : Addr
  fd_is_integer : FuncData
  F_is_integer : Fun K "is_integer" "is_integer" s_is_integer f_is_integer fd_is_integer
  g_is_integer : mg "is_integer" = some (.ref f_is_integer)
  b_is_integer : Binds K fd_is_integer ["value"] []
  f_is_within : Addr
  fd_is_within : FuncData
  F_is_within : Fun K "is_within" "is_within" s_is_within f_is_within fd_is_within
  g_is_within : mg "is_within" = some (.ref f_is_within)
  b_is_within : Binds K fd_is_within ["value", "least", "most"] []
  f_need_number : Addr
  fd_need_number : FuncData
  F_need_number : Fun K "need_number" "need_number" s_need_number f_need_number fd_need_number
  g_need_number : mg "need_number" = some (.ref f_need_number)
  b_need_number : Binds K fd_need_number ["value", "part", "least", "most"] []
  f_need_power : Addr
  fd_need_power : FuncData
  F_need_power : Fun K "need_power" "need_power" s_need_power f_need_power fd_need_power
  g_need_power : mg "need_power" = some (.ref f_need_power)
  b_need_power : Binds K fd_need_power ["power"] []
  f_raised : Addr
  fd_raised : FuncData
  F_raised : Fun K "raised" "raised" s_raised f_raised fd_raised
  g_raised : mg "raised" = some (.ref f_raised)
  b_raised : Binds K fd_raised ["number", "many"] []
  f_lifted : Addr
  fd_lifted : FuncData
  F_lifted : Fun K "lifted" "lifted" s_lifted f_lifted fd_lifted
  g_lifted : mg "lifted" = some (.ref f_lifted)
  b_lifted : Binds K fd_lifted ["a", "b", "c", "d", "power"] []
  f_sum_at : Addr
  fd_sum_at : FuncData
  F_sum_at : Fun K "sum_at" "sum_at" s_sum_at f_sum_at fd_sum_at
  g_sum_at : mg "sum_at" = some (.ref f_sum_at)
  b_sum_at : Binds K fd_sum_at ["a", "b", "c", "d", "power"] []
  f_need_four : Addr
  fd_need_four : FuncData
  F_need_four : Fun K "need_four" "need_four" s_need_four f_need_four fd_need_four
  g_need_four : mg "need_four" = some (.ref f_need_four)
  b_need_four : Binds K fd_need_four ["a", "b", "c", "d", "power"] []
  f_sign_at : Addr
  fd_sign_at : FuncData
  F_sign_at : Fun K "sign_at" "sign_at" s_sign_at f_sign_at fd_sign_at
  g_sign_at : mg "sign_at" = some (.ref f_sign_at)
  b_sign_at : Binds K fd_sign_at ["a", "b", "c", "d", "power"] []
  f_holds_by : Addr
  fd_holds_by : FuncData
  F_holds_by : Fun K "holds_by" "holds_by" s_holds_by f_holds_by fd_holds_by
  g_holds_by : mg "holds_by" = some (.ref f_holds_by)
  b_holds_by : Binds K fd_holds_by ["a", "b", "c", "d", "power"] []
  f_is_by : Addr
  fd_is_by : FuncData
  F_is_by : Fun K "is_by" "is_by" s_is_by f_is_by fd_is_by
  g_is_by : mg "is_by" = some (.ref f_is_by)
  b_is_by : Binds K fd_is_by ["a", "b", "c", "d", "power"] []
  f__law_hat : Addr
  fd__law_hat : FuncData
  F__law_hat : Fun K "_law_hat" "_law_hat" s__law_hat f__law_hat fd__law_hat
  g__law_hat : mg "_law_hat" = some (.ref f__law_hat)
  b__law_hat : Binds K fd__law_hat ["script"] []
  f__law_lot : Addr
  fd__law_lot : FuncData
  F__law_lot : Fun K "_law_lot" "_law_lot" s__law_lot f__law_lot fd__law_lot
  g__law_lot : mg "_law_lot" = some (.ref f__law_lot)
  b__law_lot : Binds K fd__law_lot ["hat", "many"] []
  f__law_one : Addr
  fd__law_one : FuncData
  F__law_one : Fun K "_law_one" "_law_one" s__law_one f__law_one fd__law_one
  g__law_one : mg "_law_one" = some (.ref f__law_one)
  b__law_one : Binds K fd__law_one ["hat", "some"] []
  f__law_raised : Addr
  fd__law_raised : FuncData
  F__law_raised : Fun K "_law_raised" "_law_raised" s__law_raised f__law_raised fd__law_raised
  g__law_raised : mg "_law_raised" = some (.ref f__law_raised)
  b__law_raised : Binds K fd__law_raised ["number", "many"] []
  f__law_sum : Addr
  fd__law_sum : FuncData
  F__law_sum : Fun K "_law_sum" "_law_sum" s__law_sum f__law_sum fd__law_sum
  g__law_sum : mg "_law_sum" = some (.ref f__law_sum)
  b__law_sum : Binds K fd__law_sum ["a", "b", "c", "d", "power"] []
  f__law_sign : Addr
  fd__law_sign : FuncData
  F__law_sign : Fun K "_law_sign" "_law_sign" s__law_sign f__law_sign fd__law_sign
  g__law_sign : mg "_law_sign" = some (.ref f__law_sign)
  b__law_sign : Binds K fd__law_sign ["number"] []
  f__law_is_by : Addr
  fd__law_is_by : FuncData
  F__law_is_by : Fun K "_law_is_by" "_law_is_by" s__law_is_by f__law_is_by fd__law_is_by
  g__law_is_by : mg "_law_is_by" = some (.ref f__law_is_by)
  b__law_is_by : Binds K fd__law_is_by ["a", "b", "c", "d", "power"] []
  f__law_steps : Addr
  fd__law_steps : FuncData
  F__law_steps : Fun K "_law_steps" "_law_steps" s__law_steps f__law_steps fd__law_steps
  g__law_steps : mg "_law_steps" = some (.ref f__law_steps)
  b__law_steps : Binds K fd__law_steps ["hat", "most"] []
  f__law_squares : Addr
  fd__law_squares : FuncData
  F__law_squares : Fun K "_law_squares" "_law_squares" s__law_squares f__law_squares fd__law_squares
  g__law_squares : mg "_law_squares" = some (.ref f__law_squares)
  b__law_squares : Binds K fd__law_squares ["hat"] []
  f__law_four : Addr
  fd__law_four : FuncData
  F__law_four : Fun K "_law_four" "_law_four" s__law_four f__law_four fd__law_four
  g__law_four : mg "_law_four" = some (.ref f__law_four)
  b__law_four : Binds K fd__law_four ["hat"] []
  f__law_turned_right : Addr
  fd__law_turned_right : FuncData
  F__law_turned_right : Fun K "_law_turned_right" "_law_turned_right" s__law_turned_right f__law_turned_right fd__law_turned_right
  g__law_turned_right : mg "_law_turned_right" = some (.ref f__law_turned_right)
  b__law_turned_right : Binds K fd__law_turned_right ["a", "b", "c", "d", "power", "told"] []
  f__law_chained_right : Addr
  fd__law_chained_right : FuncData
  F__law_chained_right : Fun K "_law_chained_right" "_law_chained_right" s__law_chained_right f__law_chained_right fd__law_chained_right
  g__law_chained_right : mg "_law_chained_right" = some (.ref f__law_chained_right)
  b__law_chained_right : Binds K fd__law_chained_right ["hat", "a", "b", "c", "d"] []
  f_law : Addr
  fd_law : FuncData
  F_law : Fun K "law" "law" s_law f_law fd_law
  g_law : mg "law" = some (.ref f_law)
  b_law : Binds K fd_law ["script"] []
  z_abs : mg "abs" = none
  z_bool : mg "bool" = none
  z_int : mg "int" = none
  z_isinstance : mg "isinstance" = none
  z_len : mg "len" = none
  z_max : mg "max" = none
  z_range : mg "range" = none
  t_MOST_POWER : Tok
  c_MOST_POWER : mg "MOST_POWER" = some (.int 80 t_MOST_POWER)
  t_MOST_NUMBER : Tok
  c_MOST_NUMBER : mg "MOST_NUMBER" = some (.int 1000000 t_MOST_NUMBER)
namespace Tx
variable {K : PySem.W.Frag} {mg : Str → Option Value}
theorem r_MOST_POWER (T : Tx K mg) : RelV (.int 80) (.int 80 T.t_MOST_POWER) := ⟨_, rfl⟩
theorem r_MOST_NUMBER (T : Tx K mg) : RelV (.int 1000000) (.int 1000000 T.t_MOST_NUMBER) := ⟨_, rfl⟩
end Tx
end K18
namespace K18
open PySem PySem.Spec PyProof.Rows L2 HX
section
variable {P : Program} {w : World} {K : PySem.W.Frag} {mg : Str → Option Value} {base : Heap}
def sp_is_integer (K : PySem.W.Frag) : Sp := fun vs H Q _ => ∃ i : Int, vs = [.int i] ∧ Q (.bl true) H
theorem ok_is_integer (T : Tx K mg) : FnOk P w K mg base CX0 1 T.f_is_integer T.fd_is_integer ["value"] (sp_is_integer K) := by
  refine T.F_is_integer.ok sc_is_integer (fun vs H Q E h => ?_) (fun cdv A outer s H vs Q E hr h => ?_)
  · obtain ⟨i, rfl, _⟩ := h; rfl
  obtain ⟨i, rfl, q⟩ := h
  refine ⟨_, (pss_one (ps_ret (pe_and (pe_callB (call_isiK' (K := K)) (by rfl) T.z_isinstance (by decide +kernel) (pa_cons (pv 0) (pa_cons (pe_bltn (v := .ty "int") (by rfl) T.z_int (by decide +kernel) rfl) pa_nil))) (pe_one (pe_not (pe_callB (call_isiK' (K := K)) (by rfl) T.z_isinstance (by decide +kernel) (pa_cons (pv 0) (pa_cons (pe_bltn (v := .ty "bool") (by rfl) T.z_bool (by decide +kernel) rfl) pa_nil)))))))), ?_⟩
  refine HX.start_ (σ := [some (V.int i)]) rfl ?_
  walk_at "hr"
  exact q
theorem use_is_integer {i : Int} {H : Hp} {Q : VK} {E : XK} (q : Q (.bl true) H) : sp_is_integer K ([.int i] ++ []) H Q E := ⟨i, rfl, q⟩
local macro_rules | `(tactic| walk_at "hu") => `(tactic| with_reducible refine use_is_integer ?_)
def sp_is_within (K : PySem.W.Frag) : Sp := fun vs H Q _ => ∃ v lo hi : Int, vs = [.int v, .int lo, .int hi] ∧ lo ≤ v ∧ v ≤ hi ∧ Q (.bl true) H
theorem use_is_within {v lo hi : Int} {H : Hp} {Q : VK} {E : XK} (h : lo ≤ v ∧ v ≤ hi) (q : Q (.bl true) H) : sp_is_within K ([.int v, .int lo, .int hi] ++ []) H Q E := ⟨v, lo, hi, rfl, h.1, h.2, q⟩
theorem ok_is_within (T : Tx K mg) : FnOk P w K mg base CX0 2 T.f_is_within T.fd_is_within ["value", "least", "most"] (sp_is_within K) := by
  refine T.F_is_within.ok sc_is_within (fun vs H Q E h => ?_) (fun cdv A outer s H vs Q E hr h => ?_)
  · obtain ⟨i, j, k, rfl, _⟩ := h; rfl
  obtain ⟨v, lo, hi, rfl, h1, h2, q⟩ := h
  refine ⟨_, (pss_cons (ps_if (PW.pt (pw_or (pt_not (pt_val (pe_call (ok_is_integer T) (hr.mono (by decide)) (by rfl) T.g_is_integer T.F_is_integer.kp T.b_is_integer .nil pass0 (pa_cons (pv 0) pa_nil)))) (pw_or1 (PW.pt (pw_and (pt_cmpR op_notNU (pv 1) pe_non (nomark _)) (pw_and1 (pt_cmpR op_lt (pv 0) (pv 1) (nomark _)))))))) (pss_one (ps_ret pe_bl)) pss_nil)
      (pss_one (ps_ret (pe_or (pe_cmpR op_isNU (pv 2) pe_non (nomark _)) (pe_one (pe_cmpR op_le (pv 0) (pv 2) (nomark _))))))), ?_⟩
  refine HX.start_ (σ := [some (V.int v), some (V.int lo), some (V.int hi)]) rfl ?_
  walk_at "hr"
  rw [decide_eq_true h2]
  exact q
local macro_rules | `(tactic| walk_at "hu") => `(tactic| ((with_reducible refine use_is_within ?c ?_); (case c => constructor <;> omega)))
def sp_need_number (K : PySem.W.Frag) : Sp := fun vs H Q _ => ∃ (v lo hi : Int) (z : Str), vs = [.int v, .str z, .int lo, .int hi] ∧ lo ≤ v ∧ v ≤ hi ∧ Q .non H
theorem use_need_number {v lo hi : Int} {z : Str} {H : Hp} {Q : VK} {E : XK} (h : lo ≤ v ∧ v ≤ hi) (q : Q .non H) : sp_need_number K ([.int v, .str z, .int lo, .int hi] ++ []) H Q E := ⟨v, lo, hi, z, rfl, h.1, h.2, q⟩
theorem ok_need_number (T : Tx K mg) : FnOk P w K mg base CX0 3 T.f_need_number T.fd_need_number ["value", "part", "least", "most"] (sp_need_number K) := by
  refine T.F_need_number.ok sc_need_number (fun vs H Q E h => ?_) (fun cdv A outer s H vs Q E hr h => ?_)
  · obtain ⟨i, j, k, z, rfl, _⟩ := h; rfl
  obtain ⟨v, lo, hi, z, rfl, h1, h2, q⟩ := h
  refine ⟨_, (pss_one (ps_if (pt_not (pt_val (pe_call (ok_is_within T) (hr.mono (by decide)) (by rfl) T.g_is_within T.F_is_within.kp T.b_is_within .nil pass0 (pa_cons (pv 0) (pa_cons (pv 2) (pa_cons (pv 3) pa_nil)))))) (pss_one ps_never) pss_nil)), ?_⟩
  refine HX.start_ (σ := [some (V.int v), some (V.str z), some (V.int lo), some (V.int hi)]) rfl ?_
  walk_at "hr"
  exact q
local macro_rules | `(tactic| walk_at "hu") => `(tactic| ((with_reducible refine use_need_number ?c ?_); (case c => constructor <;> omega)))
def sp_need_power (K : PySem.W.Frag) : Sp := fun vs H Q _ => ∃ (p : Int), vs = [.int p] ∧ -80 ≤ p ∧ p ≤ 80 ∧ Q .non H
theorem use_need_power {p : Int} {H : Hp} {Q : VK} {E : XK} (h : -80 ≤ p ∧ p ≤ 80) (q : Q .non H) : sp_need_power K ([.int p] ++ []) H Q E := ⟨p, rfl, h.1, h.2, q⟩
theorem ok_need_power (T : Tx K mg) : FnOk P w K mg base CX0 4 T.f_need_power T.fd_need_power ["power"] (sp_need_power K) := by
  refine T.F_need_power.ok sc_need_power (fun vs H Q E h => ?_) (fun cdv A outer s H vs Q E hr h => ?_)
  · obtain ⟨i, rfl, _⟩ := h; rfl
  obtain ⟨p, rfl, h1, h2, q⟩ := h
  refine ⟨_, (pss_one (ps_expr (pe_call (ok_need_number T) (hr.mono (by decide)) (by rfl) T.g_need_number T.F_need_number.kp T.b_need_number .nil pass0 (pa_cons (pv 0) (pa_cons pe_str (pa_cons (pe_un un_neg (pe_glob (by rfl) T.c_MOST_POWER T.r_MOST_POWER)) (pa_cons (pe_glob (by rfl) T.c_MOST_POWER T.r_MOST_POWER) pa_nil))))))), ?_⟩
  refine HX.start_ (σ := [some (V.int p)]) rfl ?_
  walk_at "hr"
  exact q
local macro_rules | `(tactic| walk_at "hu") => `(tactic| ((with_reducible refine use_need_power ?c ?_); (case c => constructor <;> omega)))
def sp_raised (K : PySem.W.Frag) : Sp := fun vs H Q _ => ∃ n k : Int, vs = [.int n, .int k] ∧ (0 ≤ k ∧ k ≤ 80) ∧ (-(2 ^ 64) < n ∧ n < 2 ^ 64) ∧ Q (.int (n ^ k.toNat)) H
theorem use_raised {n k : Int} {H : Hp} {Q : VK} {E : XK} (h : 0 ≤ k ∧ k ≤ 80) (hn : -(2 ^ 64) < n ∧ n < 2 ^ 64) (q : Q (.int (n ^ k.toNat)) H) : sp_raised K ([.int n, .int k] ++ []) H Q E := ⟨n, k, rfl, h, hn, q⟩
theorem ok_raised (T : Tx K mg) : FnOk P w K mg base CX0 1 T.f_raised T.fd_raised ["number", "many"] (sp_raised K) := by
  refine T.F_raised.ok sc_raised (fun vs H Q E h => ?_) (fun cdv A outer s H vs Q E hr h => ?_)
  · obtain ⟨i, j, rfl, _⟩ := h; rfl
  obtain ⟨n, k, rfl, hk, hn, q⟩ := h
  refine ⟨_, (pss_cons (ps_set (i := 2) sc_raised.nd rfl (by first | exact .inl rfl | exact .inr rfl) pe_int)
      (pss_cons (ps_for PassesOwn.never (by rfl) (pi_range1 (by rfl) T.z_range (pa_cons (pv 1) pa_nil)) (pg_name (i := 3) sc_raised.nd rfl (by first | exact .inl rfl | exact .inr rfl)) (pss_one (ps_set (i := 2) sc_raised.nd rfl (by first | exact .inl rfl | exact .inr rfl) (pe_op op_mulU (pv 2) (pv 0)))))
      (pss_one (ps_ret (pv 2))))), ?_⟩
  refine HX.start_ (σ := [some (V.int n), some (V.int k), none, none]) rfl ?_
  walk_at "hr"
  refine ⟨by omega, by omega, ?_⟩
  refine for_range (lo := 0) (n := k.toNat) (fun i σ H' => H' = H ∧ ∃ y, σ = [some (.int n), some (.int k), some (.int (n ^ i)), y]) ⟨rfl, none, by rw [Int.pow_zero]⟩ ?_ ?_
  · rintro i σ H' hi ⟨rfl, y, rfl⟩
    walk_at "hr"
    exact ⟨rfl, _, by rw [Int.pow_succ]⟩
  · rintro σ H' ⟨rfl, y, rfl⟩
    walk_at "hr"
    exact q
local macro_rules | `(tactic| walk_at "hu") => `(tactic| ((with_reducible refine use_raised ?c ?d ?_); (case c => constructor <;> omega); (case d => first | assumption | (constructor <;> omega))))
theorem prod2_bd {x y : Int} {m n : Nat} (hx : 0 ≤ x ∧ x ≤ m) (hy : 0 ≤ y ∧ y ≤ n) : 0 ≤ x * y ∧ x * y ≤ ((m * n : Nat) : Int) := by
  refine ⟨Int.mul_nonneg hx.1 hy.1, ?_⟩
  rw [Int.natCast_mul]
  exact Int.mul_le_mul hx.2 hy.2 hy.1 (by omega)
theorem prod3_bd {x y z : Int} (hx : 1 ≤ x ∧ x ≤ 1000000) (hy : 1 ≤ y ∧ y ≤ 1000000) (hz : 1 ≤ z ∧ z ≤ 1000000) : -(2 ^ 64) < x * y * z ∧ x * y * z < 2 ^ 64 := by
  have h1 := prod2_bd (x := x) (y := y) (m := 1000000) (n := 1000000) (by omega) (by omega)
  have h2 := prod2_bd (x := x * y) (y := z) (m := 1000000 * 1000000) (n := 1000000) h1 (by omega)
  constructor <;> omega
/-- what lifted tells -/
def lift (a b c d p : Int) : List Int := if p < 0 then [(b * c * d) ^ (-p).toNat, (a * c * d) ^ (-p).toNat, (a * b * d) ^ (-p).toNat, (a * b * c) ^ (-p).toNat] else [a ^ p.toNat, b ^ p.toNat, c ^ p.toNat, d ^ p.toNat]
def S (a b c d p : Int) : Int := if p < 0 then (b * c * d) ^ (-p).toNat + (a * b * c) ^ (-p).toNat - (a * c * d) ^ (-p).toNat - (a * b * d) ^ (-p).toNat else a ^ p.toNat + d ^ p.toNat - b ^ p.toNat - c ^ p.toNat
structure Ok4 (a b c d : Int) : Prop where
  a : 1 ≤ a ∧ a ≤ 1000000
  b : 1 ≤ b ∧ b ≤ 1000000
  c : 1 ≤ c ∧ c ≤ 1000000
  d : 1 ≤ d ∧ d ≤ 1000000
def powV (k : Nat) : V → V
  | .int i => .int (i ^ k)
  | v => v
def sp_lifted (K : PySem.W.Frag) : Sp := fun vs H Q _ => ∃ a b c d p : Int, vs = [.int a, .int b, .int c, .int d, .int p] ∧ Ok4 a b c d ∧ (-80 ≤ p ∧ p ≤ 80) ∧ ∀ r H', Same H H' → H' r = some (.lst ((lift a b c d p).map V.int)) → Q (.ref r) H'
theorem ok_lifted (T : Tx K mg) : FnOk P w K mg base CX0 2 T.f_lifted T.fd_lifted ["a", "b", "c", "d", "power"] (sp_lifted K) := by
  refine T.F_lifted.ok sc_lifted (fun vs H Q E h => ?_) (fun cdv A outer s H vs Q E hr h => ?_)
  · obtain ⟨a, b, c, d, p, rfl, o, hp, q⟩ := h; rfl
  obtain ⟨a, b, c, d, p, rfl, o, hp, q⟩ := h
  refine ⟨_, (pss_cons (ps_if (pt_cmpR op_lt (pv 4) pe_int (nomark _)) (pss_one (ps_ret (pe_lc (own := [("number", 5)]) (g := gName 5) (tt := tYes) (by rfl) sc_lifted.nd (pi_tupK (K := K) (pe_tup (pa_cons (pe_op op_mulU (pe_op op_mulU (pv 1) (pv 2)) (pv 3)) (pa_cons (pe_op op_mulU (pe_op op_mulU (pv 0) (pv 2)) (pv 3)) (pa_cons (pe_op op_mulU (pe_op op_mulU (pv 0) (pv 1)) (pv 3)) (pa_cons (pe_op op_mulU (pe_op op_mulU (pv 0) (pv 1)) (pv 2)) pa_nil)))))) (blkOk_by (own := [("number", 5)]) (N := n_lifted) (sc := defScope s_lifted) (by decide +kernel)) (fun _ _ _ _ _ => (pg_name (i := 5) sc_lifted.nd rfl (by first | exact .inl rfl | exact .inr rfl))) (fun _ _ _ _ _ => pts_nil) (fun _ _ _ _ _ => (pe_call (ok_raised T) (hr.mono (by decide)) (by rfl) T.g_raised T.F_raised.kp T.b_raised .nil pass0 (pa_cons (pv 5) (pa_cons (pe_un un_neg (pv 4)) pa_nil))))))) pss_nil)
      (pss_one (ps_ret (pe_lc (own := [("number", 5)]) (g := gName 5) (tt := tYes) (by rfl) sc_lifted.nd (pi_tupK (K := K) (pe_tup (pa_cons (pv 0) (pa_cons (pv 1) (pa_cons (pv 2) (pa_cons (pv 3) pa_nil)))))) (blkOk_by (own := [("number", 5)]) (N := n_lifted) (sc := defScope s_lifted) (by decide +kernel)) (fun _ _ _ _ _ => (pg_name (i := 5) sc_lifted.nd rfl (by first | exact .inl rfl | exact .inr rfl))) (fun _ _ _ _ _ => pts_nil) (fun _ _ _ _ _ => (pe_call (ok_raised T) (hr.mono (by decide)) (by rfl) T.g_raised T.F_raised.kp T.b_raised .nil pass0 (pa_cons (pv 5) (pa_cons (pv 4) pa_nil)))))))), ?_⟩
  refine HX.start_ (σ := [some (.int a : V), some (.int b : V), some (.int c : V), some (.int d : V), some (.int p : V), none]) rfl ?_
  obtain ⟨ha, hb, hc, hd⟩ := o
  walk_at "hr"
  refine HX.ited_ (fun h => ?_) (fun h => ?_)
  · walk_at "hr"
    intro t ht
    refine ⟨t, rfl, ⟨_, SqT.of upd_same⟩, ?_⟩
    intro D hD
    refine HX.lcTp (powV (-p).toNat) (SqT.of upd_same) hD rfl (fun _ => rfl) (fun i x H' R hx e k => ?_) (fun H' e hl => ?_)
    · have hx2 : ∃ z : Int, x = .int z ∧ -(2 ^ 64) < z ∧ z < 2 ^ 64 := by
        match i, hx with
        | 0, hx => cases hx; exact ⟨_, rfl, prod3_bd hb hc hd⟩
        | 1, hx => cases hx; exact ⟨_, rfl, prod3_bd ha hc hd⟩
        | 2, hx => cases hx; exact ⟨_, rfl, prod3_bd ha hb hd⟩
        | 3, hx => cases hx; exact ⟨_, rfl, prod3_bd ha hb hc⟩
      obtain ⟨z, rfl, hz⟩ := hx2
      walk_at "hw"
      walk_at "hr"
      exact k _ (Same.refl _)
    · refine q D H' ((same_new ht).trans e) ?_
      rw [hl]
      unfold lift
      rw [if_pos h]
      rfl
  · walk_at "hr"
    intro t ht
    refine ⟨t, rfl, ⟨_, SqT.of upd_same⟩, ?_⟩
    intro D hD
    refine HX.lcTp (powV p.toNat) (SqT.of upd_same) hD rfl (fun _ => rfl) (fun i x H' R hx e k => ?_) (fun H' e hl => ?_)
    · have hx2 : ∃ z : Int, x = .int z ∧ -(2 ^ 64) < z ∧ z < 2 ^ 64 := by
        match i, hx with
        | 0, hx => cases hx; exact ⟨_, rfl, by omega⟩
        | 1, hx => cases hx; exact ⟨_, rfl, by omega⟩
        | 2, hx => cases hx; exact ⟨_, rfl, by omega⟩
        | 3, hx => cases hx; exact ⟨_, rfl, by omega⟩
      obtain ⟨z, rfl, hz⟩ := hx2
      walk_at "hw"
      walk_at "hr"
      exact k _ (Same.refl _)
    · refine q D H' ((same_new ht).trans e) ?_
      rw [hl]
      unfold lift
      rw [if_neg h]
      rfl
def sp_sum_at (K : PySem.W.Frag) : Sp := fun vs H Q _ => ∃ a b c d p : Int, vs = [.int a, .int b, .int c, .int d, .int p] ∧ Ok4 a b c d ∧ (-80 ≤ p ∧ p ≤ 80) ∧ ∀ H', Same H H' → Q (.int (S a b c d p)) H'
theorem ok_sum_at (T : Tx K mg) : FnOk P w K mg base CX0 3 T.f_sum_at T.fd_sum_at ["a", "b", "c", "d", "power"] (sp_sum_at K) := by
  refine T.F_sum_at.ok sc_sum_at (fun vs H Q E h => ?_) (fun cdv A outer s H vs Q E hr h => ?_)
  · obtain ⟨a, b, c, d, p, rfl, o, hp, q⟩ := h; rfl
  obtain ⟨a, b, c, d, p, rfl, o, hp, q⟩ := h
  refine ⟨_, (pss_cons (ps_asg (pe_call (ok_lifted T) (hr.mono (by decide)) (by rfl) T.g_lifted T.F_lifted.kp T.b_lifted .nil pass0 (pa_cons (pv 0) (pa_cons (pv 1) (pa_cons (pv 2) (pa_cons (pv 3) (pa_cons (pv 4) pa_nil)))))) (pg_unlK (K := K) 4 (by rfl) (pgs_cons (pg_name (i := 5) sc_sum_at.nd rfl (by first | exact .inl rfl | exact .inr rfl)) (pgs_cons (pg_name (i := 6) sc_sum_at.nd rfl (by first | exact .inl rfl | exact .inr rfl)) (pgs_cons (pg_name (i := 7) sc_sum_at.nd rfl (by first | exact .inl rfl | exact .inr rfl)) (pgs_cons (pg_name (i := 8) sc_sum_at.nd rfl (by first | exact .inl rfl | exact .inr rfl)) pgs_nil))))))
      (pss_one (ps_ret (pe_op op_sub (pe_op op_sub (pe_op (op_addK (K := K)) (pv 5) (pv 8)) (pv 6)) (pv 7))))), ?_⟩
  refine HX.start_ (σ := [some (.int a : V), some (.int b : V), some (.int c : V), some (.int d : V), some (.int p : V), none, none, none, none]) rfl ?_
  walk_at "hr"
  refine ⟨a, b, c, d, p, rfl, o, hp, fun r H' e hl => ?_⟩
  by_cases h : p < 0
  · have e2 : lift a b c d p = _ := if_pos h
    rw [e2] at hl
    simp only [List.map_cons, List.map_nil] at hl
    refine ⟨r, _, rfl, SqL.of hl, rfl, ?_⟩
    walk_at "hr"
    have e3 : S a b c d p = _ := if_pos h
    rw [← e3]
    exact q _ e
  · have e2 : lift a b c d p = _ := if_neg h
    rw [e2] at hl
    simp only [List.map_cons, List.map_nil] at hl
    refine ⟨r, _, rfl, SqL.of hl, rfl, ?_⟩
    walk_at "hr"
    have e3 : S a b c d p = _ := if_neg h
    rw [← e3]
    exact q _ e
def sp_need_four (K : PySem.W.Frag) : Sp := fun vs H Q _ => ∃ a b c d p : Int, vs = [.int a, .int b, .int c, .int d, .int p] ∧ Ok4 a b c d ∧ (-80 ≤ p ∧ p ≤ 80) ∧ ∀ H', Same H H' → Q .non H'
theorem ok_need_four (T : Tx K mg) : FnOk P w K mg base CX0 5 T.f_need_four T.fd_need_four ["a", "b", "c", "d", "power"] (sp_need_four K) := by
  refine T.F_need_four.ok sc_need_four (fun vs H Q E h => ?_) (fun cdv A outer s H vs Q E hr h => ?_)
  · obtain ⟨a, b, c, d, p, rfl, o, hp, q⟩ := h; rfl
  obtain ⟨a, b, c, d, p, rfl, o, hp, q⟩ := h
  refine ⟨_, (pss_cons (ps_for PassesOwn.never (by rfl) (pi_tupK (K := K) (pe_tup (pa_cons (pe_tup (pa_cons (pv 0) (pa_cons pe_str pa_nil))) (pa_cons (pe_tup (pa_cons (pv 1) (pa_cons pe_str pa_nil))) (pa_cons (pe_tup (pa_cons (pv 2) (pa_cons pe_str pa_nil))) (pa_cons (pe_tup (pa_cons (pv 3) (pa_cons pe_str pa_nil))) pa_nil)))))) (pg_tupK (K := K) 2 (by rfl) (pgs_cons (pg_name (i := 5) sc_need_four.nd rfl (by first | exact .inl rfl | exact .inr rfl)) (pgs_cons (pg_name (i := 6) sc_need_four.nd rfl (by first | exact .inl rfl | exact .inr rfl)) pgs_nil))) (pss_one (ps_expr (pe_call (ok_need_number T) (hr.mono (by decide)) (by rfl) T.g_need_number T.F_need_number.kp T.b_need_number .nil pass0 (pa_cons (pv 5) (pa_cons (pv 6) (pa_cons pe_int (pa_cons (pe_glob (by rfl) T.c_MOST_NUMBER T.r_MOST_NUMBER) pa_nil))))))))
      (pss_one (ps_expr (pe_call (ok_need_power T) (hr.mono (by decide)) (by rfl) T.g_need_power T.F_need_power.kp T.b_need_power .nil pass0 (pa_cons (pv 4) pa_nil))))), ?_⟩
  refine HX.start_ (σ := [some (.int a : V), some (.int b : V), some (.int c : V), some (.int d : V), some (.int p : V), none, none]) rfl ?_
  obtain ⟨ha, hb, hc, hd⟩ := o
  walk_at "hr"
  intro t1 h1; walk_at "hr"; intro t2 h2; walk_at "hr"; intro t3 h3; walk_at "hr"; intro t4 h4; walk_at "hr"; intro t5 h5
  have n1 := HX.same_new (o := .tup [V.int a, .str "a"]) h1
  have n2 := HX.same_new (o := .tup [V.int b, .str "b"]) h2
  have n3 := HX.same_new (o := .tup [V.int c, .str "c"]) h3
  have n4 := HX.same_new (o := .tup [V.int d, .str "d"]) h4
  have n5 := HX.same_new (o := .tup [V.ref t1, .ref t2, .ref t3, .ref t4]) h5
  have g5 : _ = some (HO.tup [V.ref t1, .ref t2, .ref t3, .ref t4]) := (upd_same : (upd (upd (upd (upd (upd H t1 (.tup [V.int a, .str "a"])) t2 (.tup [V.int b, .str "b"])) t3 (.tup [V.int c, .str "c"])) t4 (.tup [V.int d, .str "d"])) t5 (.tup [V.ref t1, .ref t2, .ref t3, .ref t4])) t5 = _)
  have g4 := n5 t4 _ upd_same
  have g3 := n5 t3 _ (n4 t3 _ upd_same)
  have g2 := n5 t2 _ (n4 t2 _ (n3 t2 _ upd_same))
  have g1 := n5 t1 _ (n4 t1 _ (n3 t1 _ (n2 t1 _ upd_same)))
  have sm := (((n1.trans n2).trans n3).trans n4).trans n5
  refine ⟨t5, rfl, ⟨_, SqT.of upd_same⟩, ?_⟩
  refine HX.unrT (bk := fun _ _ => False) (ct := fun _ _ => False) (xs := [V.ref t1, .ref t2, .ref t3, .ref t4]) ?_
  refine ⟨SqT.of g5, t1, _, rfl, SqT.of g1, rfl, ?_⟩
  walk_at "hr"
  refine ⟨SqT.of g5, t2, _, rfl, SqT.of g2, rfl, ?_⟩
  walk_at "hr"
  refine ⟨SqT.of g5, t3, _, rfl, SqT.of g3, rfl, ?_⟩
  walk_at "hr"
  refine ⟨SqT.of g5, t4, _, rfl, SqT.of g4, rfl, ?_⟩
  walk_at "hr"
  refine ⟨SqT.of g5, ?_⟩
  walk_at "hr"
  exact q _ sm
def sgn (x : Int) : Int := (if decide (x > 0) then 1 else 0) - (if decide (x < 0) then 1 else 0)
def sp_sign_at (K : PySem.W.Frag) : Sp := fun vs H Q _ => ∃ a b c d p : Int, vs = [.int a, .int b, .int c, .int d, .int p] ∧ Ok4 a b c d ∧ (-80 ≤ p ∧ p ≤ 80) ∧ ∀ H', Same H H' → Q (.int (sgn (S a b c d p))) H'
theorem ok_sign_at (T : Tx K mg) : FnOk P w K mg base CX0 6 T.f_sign_at T.fd_sign_at ["a", "b", "c", "d", "power"] (sp_sign_at K) := by
  refine T.F_sign_at.ok sc_sign_at (fun vs H Q E h => ?_) (fun cdv A outer s H vs Q E hr h => ?_)
  · obtain ⟨a, b, c, d, p, rfl, o, hp, q⟩ := h; rfl
  obtain ⟨a, b, c, d, p, rfl, o, hp, q⟩ := h
  refine ⟨_, (pss_cons (ps_expr (pe_call (ok_need_four T) (hr.mono (by decide)) (by rfl) T.g_need_four T.F_need_four.kp T.b_need_four .nil pass0 (pa_cons (pv 0) (pa_cons (pv 1) (pa_cons (pv 2) (pa_cons (pv 3) (pa_cons (pv 4) pa_nil)))))))
      (pss_cons (ps_set (i := 5) sc_sign_at.nd rfl (by first | exact .inl rfl | exact .inr rfl) (pe_call (ok_sum_at T) (hr.mono (by decide)) (by rfl) T.g_sum_at T.F_sum_at.kp T.b_sum_at .nil pass0 (pa_cons (pv 0) (pa_cons (pv 1) (pa_cons (pv 2) (pa_cons (pv 3) (pa_cons (pv 4) pa_nil)))))))
      (pss_one (ps_ret (pe_op op_sub (pe_callTy call_intU (by rfl) T.z_int (by decide +kernel) (pa_cons (pe_cmpR op_gt (pv 5) pe_int (nomark _)) pa_nil)) (pe_callTy call_intU (by rfl) T.z_int (by decide +kernel) (pa_cons (pe_cmpR op_lt (pv 5) pe_int (nomark _)) pa_nil))))))), ?_⟩
  refine HX.start_ (σ := [some (.int a : V), some (.int b : V), some (.int c : V), some (.int d : V), some (.int p : V), none]) rfl ?_
  walk_at "hr"
  refine ⟨a, b, c, d, p, rfl, o, hp, fun H' e => ?_⟩
  walk_at "hr"
  refine ⟨a, b, c, d, p, rfl, o, hp, fun H2 e2 => ?_⟩
  walk_at "hr"
  exact q _ (e.trans e2)
/-- what holds_by tells -/
def By (a b c d p : Int) : Bool := if p = 0 then decide (a * d = b * c) else decide (S a b c d p = 0)
def sp_holds_by (K : PySem.W.Frag) : Sp := fun vs H Q _ => ∃ a b c d p : Int, vs = [.int a, .int b, .int c, .int d, .int p] ∧ Ok4 a b c d ∧ (-80 ≤ p ∧ p ≤ 80) ∧ ∀ H', Same H H' → Q (.bl (By a b c d p)) H'
theorem ok_holds_by (T : Tx K mg) : FnOk P w K mg base CX0 4 T.f_holds_by T.fd_holds_by ["a", "b", "c", "d", "power"] (sp_holds_by K) := by
  refine T.F_holds_by.ok sc_holds_by (fun vs H Q E h => ?_) (fun cdv A outer s H vs Q E hr h => ?_)
  · obtain ⟨a, b, c, d, p, rfl, o, hp, q⟩ := h; rfl
  obtain ⟨a, b, c, d, p, rfl, o, hp, q⟩ := h
  refine ⟨_, (pss_one (ps_ret (pe_ifExp (pt_cmpR (op_eqK (K := K) hr.units) (pv 4) pe_int (nomark _)) (pe_cmpR (op_eqK (K := K) hr.units) (pe_op op_mulU (pv 0) (pv 3)) (pe_op op_mulU (pv 1) (pv 2)) (nomark _)) (pe_cmpR (op_eqK (K := K) hr.units) (pe_call (ok_sum_at T) (hr.mono (by decide)) (by rfl) T.g_sum_at T.F_sum_at.kp T.b_sum_at .nil pass0 (pa_cons (pv 0) (pa_cons (pv 1) (pa_cons (pv 2) (pa_cons (pv 3) (pa_cons (pv 4) pa_nil)))))) pe_int (nomark _))))), ?_⟩
  refine HX.start_ (σ := [some (.int a : V), some (.int b : V), some (.int c : V), some (.int d : V), some (.int p : V)]) rfl ?_
  walk_at "hr"
  obtain ⟨ha, hb, hc, hd⟩ := id o
  refine HX.ited_ (fun h => ?_) (fun h => ?_)
  · walk_at "hr"
    have e : By a b c d p = decide (a * d = b * c) := if_pos h
    rw [← e]
    exact q _ (Same.refl _)
  · walk_at "hr"
    refine ⟨a, b, c, d, p, rfl, o, hp, fun H' e => ?_⟩
    walk_at "hr"
    have e2 : By a b c d p = decide (S a b c d p = 0) := if_neg h
    rw [← e2]
    exact q _ e
def sp_is_by (K : PySem.W.Frag) : Sp := fun vs H Q _ => ∃ a b c d p : Int, vs = [.int a, .int b, .int c, .int d, .int p] ∧ Ok4 a b c d ∧ (-80 ≤ p ∧ p ≤ 80) ∧ ∀ H', Same H H' → Q (.bl (By a b c d p)) H'
theorem ok_is_by (T : Tx K mg) : FnOk P w K mg base CX0 6 T.f_is_by T.fd_is_by ["a", "b", "c", "d", "power"] (sp_is_by K) := by
  refine T.F_is_by.ok sc_is_by (fun vs H Q E h => ?_) (fun cdv A outer s H vs Q E hr h => ?_)
  · obtain ⟨a, b, c, d, p, rfl, o, hp, q⟩ := h; rfl
  obtain ⟨a, b, c, d, p, rfl, o, hp, q⟩ := h
  refine ⟨_, (pss_cons (ps_expr (pe_call (ok_need_four T) (hr.mono (by decide)) (by rfl) T.g_need_four T.F_need_four.kp T.b_need_four .nil pass0 (pa_cons (pv 0) (pa_cons (pv 1) (pa_cons (pv 2) (pa_cons (pv 3) (pa_cons (pv 4) pa_nil)))))))
      (pss_one (ps_ret (pe_call (ok_holds_by T) (hr.mono (by decide)) (by rfl) T.g_holds_by T.F_holds_by.kp T.b_holds_by .nil pass0 (pa_cons (pv 0) (pa_cons (pv 1) (pa_cons (pv 2) (pa_cons (pv 3) (pa_cons (pv 4) pa_nil))))))))), ?_⟩
  refine HX.start_ (σ := [some (.int a : V), some (.int b : V), some (.int c : V), some (.int d : V), some (.int p : V)]) rfl ?_
  walk_at "hr"
  refine ⟨a, b, c, d, p, rfl, o, hp, fun H' e => ?_⟩
  walk_at "hr"
  refine ⟨a, b, c, d, p, rfl, o, hp, fun H2 e2 => ?_⟩
  walk_at "hr"
  exact q _ (e.trans e2)
def sp__law_hat (K : PySem.W.Frag) : Sp := fun vs H Q _ => ∃ (a : Addr) (ns : List Int), vs = [.ref a] ∧ SqL K H a (ns.map V.int) ∧ ns.length ≤ 63 ∧ ∀ p c ms H', Same H H' → H p = none → Hat H' p c ms 0 → Q (.ref p) H'
theorem ok__law_hat (T : Tx K mg) : FnOk P w K mg base CX0 1 T.f__law_hat T.fd__law_hat ["script"] (sp__law_hat K) := by
  refine T.F__law_hat.ok sc__law_hat (fun vs H Q E h => ?_) (fun cdv A outer s H vs Q E hr h => ?_)
  · obtain ⟨a, ns, rfl, hS, hl, q⟩ := h; rfl
  obtain ⟨a, ns, rfl, hS, hl, q⟩ := h
  refine ⟨_, (pss_one (ps_ret (pe_lst (pa_cons (pe_lc (own := [("cell", 1)]) (g := gName 1) (tt := tYes) (by rfl) sc__law_hat.nd (pi_listK (K := K) (pe_slice (sl_K (K := K)) (pv 0) po_none (po_some pe_int))) (blkOk_by (own := [("cell", 1)]) (N := n__law_hat) (sc := defScope s__law_hat) (by decide +kernel)) (fun _ _ _ _ _ => (pg_name (i := 1) sc__law_hat.nd rfl (by first | exact .inl rfl | exact .inr rfl))) (fun _ _ _ _ _ => pts_nil) (fun _ _ _ _ _ => (pe_callTy call_intU (by rfl) T.z_int (by decide +kernel) (pa_cons (pv 1) pa_nil)))) (pa_cons pe_int (pa_cons pe_int pa_nil)))))), ?_⟩
  refine HX.start_ (σ := [some (.ref a : V), none]) rfl ?_
  walk_at "hr"
  refine HX.slL_ hS ?_
  intro p hp
  rw [show ((60 : Int)) = ((60 : Nat) : Int) from rfl, HX.cut_to, ← List.map_take]
  refine ⟨p, rfl, ⟨_, SqL.of upd_same⟩, ?_⟩
  intro D hD
  refine HX.lcLp (xs := (ns.take 60).map V.int) id (SqL.of upd_same) hD (Nat.ble_eq_true_of_le ?_) (fun _ => rfl) (fun i x H' R hx e k => ?_) (fun H' e hL => ?_)
  · rw [List.length_map, List.length_take]; omega
  · obtain ⟨z, rfl⟩ : ∃ z, x = .int z := by
      rw [List.getElem?_map] at hx
      cases e : (ns.take 60)[i]? with
      | none => rw [e] at hx; cases hx
      | some z => rw [e] at hx; exact ⟨z, (Option.some.inj hx).symm⟩
    walk_at "hw"
    walk_at "hr"
    exact k _ (Same.refl _)
  · walk_at "hr"
    intro u hu
    rw [List.map_id] at hL
    have s1 : Same H H' := (HX.same_new hp).trans e
    refine q u D (ns.take 60) _ (s1.trans (HX.same_new hu)) (s1.free hu) ⟨⟨0, 0, upd_same, by omega, by omega⟩, ne_of_none hL hu, ?_, ?_⟩
    · rw [upd_ne (ne_of_none hL hu)]; exact hL
    · rw [List.length_take]; omega
def sp__law_lot (K : PySem.W.Frag) : Sp := fun vs H Q _ => ∃ (a : Addr) (m : Int) (c : Addr) (ns : List Int) (n : Nat), vs = [.ref a, .int m] ∧ Hat H a c ns n ∧ n ≤ 100000 ∧ 0 < m ∧ m < 1073741824 ∧ ∀ d H', 0 ≤ d → d < m → Kept a H H' → Hat H' a c ns (n + 1) → Q (.int d) H'
theorem ok__law_lot (T : Tx K mg) : FnOk P w K mg base CX0 1 T.f__law_lot T.fd__law_lot ["hat", "many"] (sp__law_lot K) := by
  refine T.F__law_lot.ok sc__law_lot (fun vs H Q E h => ?_) (fun cdv A outer s H vs Q E hr h => ?_)
  · obtain ⟨a, m, c, ns, n, rfl, hh, hn, hm, hm2, q⟩ := h; rfl
  obtain ⟨a, m, c, ns, n, rfl, hh, hn, hm, hm2, q⟩ := h
  refine ⟨_, (pss_cons (ps_if (pt_cmpR op_gt (pe_ix (ix_K (K := K)) (pv 0) pe_int (fun _ _ => rfl)) pe_int (nomark _)) (pss_cons (ps_set (i := 2) sc__law_lot.nd rfl (by first | exact .inl rfl | exact .inr rfl) (pe_op op_modU (pe_callTy call_intU (by rfl) T.z_int (by decide +kernel) (pa_cons (pe_ix (ix_K (K := K)) (pv 0) pe_int (fun _ _ => rfl)) pa_nil)) (pv 1)))
      (pss_cons (ps_asg (pe_op op_fdivU (pe_callTy call_intU (by rfl) T.z_int (by decide +kernel) (pa_cons (pe_ix (ix_K (K := K)) (pv 0) pe_int (fun _ _ => rfl)) pa_nil)) (pv 1)) (pg_sub (pv 0) pe_int set_list))
      (pss_one (ps_ret (pv 2))))) pss_nil)
      (pss_cons (ps_set (i := 3) sc__law_lot.nd rfl (by first | exact .inl rfl | exact .inr rfl) (pe_ix (ix_K (K := K)) (pv 0) pe_int (fun _ _ => rfl)))
      (pss_cons (ps_asg (pe_op (op_addK (K := K)) (pv 3) pe_int) (pg_sub (pv 0) pe_int set_list))
      (pss_cons (ps_set (i := 4) sc__law_lot.nd rfl (by first | exact .inl rfl | exact .inr rfl) (pe_op (op_addK (K := K)) (pe_op op_mulU pe_int (pv 3)) pe_int))
      (Evl.pss_cut (ps_if (pt_cmpR (op_neK (K := K) hr.units) (pe_ix (ix_K (K := K)) (pv 0) pe_int (fun _ _ => rfl)) (pe_lst pa_nil) (nomark _)) (pss_one (ps_set (i := 4) sc__law_lot.nd rfl (by first | exact .inl rfl | exact .inr rfl) (pe_ix (ix_K (K := K)) (pe_ix (ix_K (K := K)) (pv 0) pe_int (fun _ _ => rfl)) (pe_op op_modU (pe_callTy call_intU (by rfl) T.z_int (by decide +kernel) (pa_cons (pv 3) pa_nil)) (pe_callB (call_lenK (K := K)) (by rfl) T.z_len (by decide +kernel) (pa_cons (pe_ix (ix_K (K := K)) (pv 0) pe_int (fun _ _ => rfl)) pa_nil))) (fun _ _ => rfl)))) pss_nil)
      (Evl.pss_cut (ps_if (PW.pt (pw_and (pt_cmpR op_lt (pv 3) (pe_callB (call_lenK (K := K)) (by rfl) T.z_len (by decide +kernel) (pa_cons (pe_ix (ix_K (K := K)) (pv 0) pe_int (fun _ _ => rfl)) pa_nil)) (nomark _)) (pw_and1 (pt_cmpR op_ge (pe_callB call_absU (by rfl) T.z_abs (by decide +kernel) (pa_cons (pv 4) pa_nil)) (pe_op op_pow pe_int pe_int) (nomark _))))) (pss_cons (ps_set (i := 5) sc__law_lot.nd rfl (by first | exact .inl rfl | exact .inr rfl) (pe_op (op_addK (K := K)) (pe_op op_mulU pe_int (pe_op op_sub (pe_callB call_absU (by rfl) T.z_abs (by decide +kernel) (pa_cons (pv 4) pa_nil)) (pe_op op_pow pe_int pe_int))) (pe_callTy call_intU (by rfl) T.z_int (by decide +kernel) (pa_cons (pe_cmpR op_lt (pv 4) pe_int (nomark _)) pa_nil))))
      (pss_cons (ps_asg (pe_op op_fdivU (pe_callTy call_intU (by rfl) T.z_int (by decide +kernel) (pa_cons (pv 5) pa_nil)) (pv 1)) (pg_sub (pv 0) pe_int set_list))
      (pss_one (ps_ret (pe_op op_modU (pe_callTy call_intU (by rfl) T.z_int (by decide +kernel) (pa_cons (pv 5) pa_nil)) (pv 1)))))) pss_nil)
      (pss_cons (ps_set (i := 6) sc__law_lot.nd rfl (by first | exact .inl rfl | exact .inr rfl) (pe_op op_modU (pe_callTy call_intU (by rfl) T.z_int (by decide +kernel) (pa_cons (pe_op op_pow (pe_op (op_addK (K := K)) (pe_op (op_addK (K := K)) (pe_op op_modU (pe_callTy call_intU (by rfl) T.z_int (by decide +kernel) (pa_cons (pv 4) pa_nil)) pe_int) (pe_op op_mulU pe_int (pv 3))) pe_int) pe_int) pa_nil)) pe_int))
      (pss_cons (ps_set (i := 6) sc__law_lot.nd rfl (by first | exact .inl rfl | exact .inr rfl) (pe_op op_modU (pe_callTy call_intU (by rfl) T.z_int (by decide +kernel) (pa_cons (pe_op op_pow (pe_op (op_addK (K := K)) (pe_op (op_addK (K := K)) (pe_op op_mulU (pv 6) (pe_op (op_addK (K := K)) (pe_op op_mulU pe_int (pv 3)) pe_int)) (pe_op op_mulU (pe_op op_mulU pe_int (pv 3)) (pv 3))) pe_int) pe_int) pa_nil)) pe_int))
      (pss_one (ps_ret (pe_op op_modU (pe_callTy call_intU (by rfl) T.z_int (by decide +kernel) (pa_cons (pe_op op_fdivU (pv 6) pe_int) pa_nil)) (pv 1)))))))))))), ?_⟩
  refine HX.start_ (σ := [some (.ref a : V), some (.int m : V), none, none, none, none, none]) rfl ?_
  obtain ⟨⟨t, r, hA, ht0, ht1⟩, hca, hC, hle⟩ := id hh
  walk_at "hr"
  refine HX.ixL_ (SqL.of hA) rfl ?_
  walk_at "hr"
  refine HX.ited_ (fun h => ?_) (fun h => ?_)
  · walk_at "hr"
    refine HX.ixL_ (SqL.of hA) rfl ?_
    walk_at "hr"
    intro d _ hd0 hd1
    walk_at "hr"
    refine HX.ixL_ (SqL.of hA) rfl ?_
    walk_at "hr"
    refine HX.setL_ hA rfl ?_
    walk_at "hr"
    exact q d _ hd0 hd1 (kept_upd (Kept.refl _ _)) ⟨⟨_, _, upd_same, ht0, by omega⟩, hca, by rw [upd_ne hca]; exact hC, hle⟩
  · walk_at "hr"
    refine HX.ixL_ (SqL.of hA) rfl ?_
    walk_at "hr"
    refine HX.setL_ (j := 1) hA rfl ?_
    walk_at "hr"
    rw [show [V.ref c, V.int t, V.int r].set 1 (V.int (t + 1)) = [V.ref c, V.int (t + 1), V.int r] from rfl]
    have hA2 : (upd H a (.lst [V.ref c, V.int (t + 1), V.int r])) a = some (.lst [V.ref c, V.int (t + 1), V.int r]) := upd_same
    have hC2 : (upd H a (.lst [V.ref c, V.int (t + 1), V.int r])) c = some (.lst (ns.map V.int)) := by rw [upd_ne hca]; exact hC
    have hk2 : Kept a H (upd H a (.lst [V.ref c, V.int (t + 1), V.int r])) := kept_upd (Kept.refl _ _)
    generalize (upd H a (.lst [V.ref c, V.int (t + 1), V.int r])) = G at hA2 hC2 hk2 ⊢
    refine HX.cut_ (fun σ' H' => ∃ cell : Int, σ' = [some (V.ref a), some (V.int m), none, some (V.int t), some (V.int cell), none, none] ∧ Kept a H H' ∧ H' a = some (.lst [V.ref c, V.int (t + 1), V.int r]) ∧ H' c = some (.lst (ns.map V.int))) ?_ ?_
    · walk_at "hr"
      refine HX.ixL_ (SqL.of hA2) rfl ?_
      walk_at "hr"
      intro e he
      refine HX.ne_nil_ (SqL.of (by rw [upd_ne (ne_of_none hC2 he)]; exact hC2)) (SqL.of upd_same) ?_
      walk_at "hr"
      have hA3 : (upd G e (.lst [])) a = some (.lst [V.ref c, V.int (t + 1), V.int r]) := by rw [upd_ne (ne_of_none hA2 he)]; exact hA2
      have hC3 : (upd G e (.lst [])) c = some (.lst (ns.map V.int)) := by rw [upd_ne (ne_of_none hC2 he)]; exact hC2
      have hk3 : Kept a H (upd G e (.lst [])) := kept_new hk2 he
      generalize (upd G e (.lst [])) = G3 at hA3 hC3 hk3 ⊢
      cases hns : ns with
      | nil =>
        refine HX.iteF_ rfl ?_
        walk_at "hr"
        exact ⟨_, rfl, hk3, hA3, by rw [← hns]; exact hC3⟩
      | cons x xs =>
        refine HX.iteT_ rfl ?_
        rw [hns] at hC3
        walk_at "hr"
        refine HX.ixL_ (SqL.of hA3) rfl ?_
        walk_at "hr"
        refine HX.ixL_ (SqL.of hA3) rfl ?_
        walk_at "hr"
        refine HX.len_l_ (SqL.of hC3) ?_
        rw [List.length_map]
        refine HX.mod_ (by rw [List.length_cons]; omega) fun z _ hz0 hz1 => ?_
        obtain ⟨v, hv⟩ := HX.at_int hz0 hz1
        refine HX.ixL_ (SqL.of hC3) hv ?_
        walk_at "hr"
        exact ⟨_, rfl, hk3, hA3, hC3⟩
    · rintro σ' H' ⟨cell, rfl, hk, hA', hC'⟩
      have hat' : ∀ H2 r2, Kept a H' H2 → H2 a = some (.lst [V.ref c, V.int (t + 1), V.int r2]) → Hat H2 a c ns (n + 1) := fun H2 r2 k2 e2 => ⟨⟨t + 1, r2, e2, by omega, by omega⟩, hca, k2 _ _ hca hC', hle⟩
      refine HX.cut_ (fun σ2 H2 => σ2 = [some (V.ref a), some (V.int m), none, some (V.int t), some (V.int cell), none, none] ∧ H2 = H') ?_ ?_
      · walk_at "hr"
        refine HX.ixL_ (SqL.of hA') rfl ?_
        walk_at "hr"
        refine HX.len_l_ (SqL.of hC') ?_
        walk_at "hr"
        refine HX.ited_ (fun h1 => ?_) (fun h1 => ?_)
        · walk_at "hr"
          refine HX.ited_ (fun h2 => ?_) (fun h2 => ?_)
          · walk_at "hr"
            refine HX.setL_ (j := 2) hA' rfl ?_
            walk_at "hr"
            intro d _ hd0 hd1
            exact q d _ hd0 hd1 (kept_upd hk) (hat' _ _ (kept_upd (Kept.refl _ _)) upd_same)
          · walk_at "hr"
            exact ⟨rfl, rfl⟩
        · walk_at "hr"
          exact ⟨rfl, rfl⟩
      · rintro σ2 H2 ⟨rfl, rfl⟩
        walk_at "hr"
        intro z _ hz0 hz1
        walk_at "hr"
        intro y _ hy0 hy1
        walk_at "hr"
        have b1 := prod2_bd (x := y) (y := 2 * t + 1933) (m := 2147483647) (n := 300000) (by omega) (by omega)
        have b2 := prod2_bd (x := 67057 * t) (y := t) (m := 67057 * 100000) (n := 100000) (by omega) (by omega)
        walk_at "hr"
        intro x _ hx0 hx1
        walk_at "hr"
        intro d _ hd0 hd1
        exact q d _ hd0 hd1 hk (hat' _ _ (Kept.refl _ _) hA')
theorem use_lot {a c : Addr} {m : Int} {ns : List Int} {n : Nat} {H : Hp} {Q : VK} {E : XK} (hh : Hat H a c ns n) (hn : n ≤ 100000) (hm : 0 < m ∧ m < 1073741824) (k : ∀ d H', 0 ≤ d → d < m → Kept a H H' → Hat H' a c ns (n + 1) → Q (.int d) H') : sp__law_lot K ([.ref a, .int m] ++ []) H Q E := ⟨a, m, c, ns, n, rfl, hh, hn, hm.1, hm.2, k⟩
local macro_rules | `(tactic| walk_at "hu") => `(tactic| ((with_reducible refine' use_lot ?h ?n ?m ?_); (case h => assumption); (case n => omega); (case m => constructor <;> omega)))
def sp__law_one (K : PySem.W.Frag) : Sp := fun vs H Q _ => ∃ (a l c : Addr) (ns : List Int) (n : Nat) (xs : List V), vs = [.ref a, .ref l] ∧ Hat H a c ns n ∧ n ≤ 100000 ∧ SqL K H l xs ∧ l ≠ a ∧ (0 < xs.length ∧ xs.length ≤ 1000) ∧ ∀ v H', v ∈ xs → Kept a H H' → Hat H' a c ns (n + 1) → Q v H'
theorem ok__law_one (T : Tx K mg) : FnOk P w K mg base CX0 2 T.f__law_one T.fd__law_one ["hat", "some"] (sp__law_one K) := by
  refine T.F__law_one.ok sc__law_one (fun vs H Q E h => ?_) (fun cdv A outer s H vs Q E hr h => ?_)
  · obtain ⟨a, l, c, ns, n, xs, rfl, hh, hn, hS, hla, hx, q⟩ := h; rfl
  obtain ⟨a, l, c, ns, n, xs, rfl, hh, hn, hS, hla, hx, q⟩ := h
  refine ⟨_, (pss_one (ps_ret (pe_ix (ix_K (K := K)) (pv 1) (pe_call (ok__law_lot T) (hr.mono (by decide)) (by rfl) T.g__law_lot T.F__law_lot.kp T.b__law_lot .nil pass0 (pa_cons (pv 0) (pa_cons (pe_callB (call_lenK (K := K)) (by rfl) T.z_len (by decide +kernel) (pa_cons (pv 1) pa_nil)) pa_nil))) (fun _ _ => rfl)))), ?_⟩
  refine HX.start_ (σ := [some (.ref a : V), some (.ref l : V)]) rfl ?_
  walk_at "hr"
  refine HX.len_l_ hS ?_
  walk_at "hr"
  intro d H' hd0 hd1 k1 h1
  obtain ⟨v, hv, hm⟩ := HX.at_some hd0 hd1
  refine HX.ixL_ (kept_sql k1 hla hS) hv ?_
  exact q v H' hm k1 h1
theorem use_one {a l c : Addr} {ns : List Int} {n : Nat} {xs : List V} {H : Hp} {Q : VK} {E : XK} (hh : Hat H a c ns n) (hn : n ≤ 100000) (hS : SqL K H l xs) (hla : l ≠ a) (hx : 0 < xs.length ∧ xs.length ≤ 1000) (q : ∀ v H', v ∈ xs → Kept a H H' → Hat H' a c ns (n + 1) → Q v H') : sp__law_one K ([.ref a, .ref l] ++ []) H Q E := ⟨a, l, c, ns, n, xs, rfl, hh, hn, hS, hla, hx, q⟩
def sp__law_raised (K : PySem.W.Frag) : Sp := fun vs H Q _ => ∃ n k : Int, vs = [.int n, .int k] ∧ (0 ≤ k ∧ k ≤ 80) ∧ (-(2 ^ 64) < n ∧ n < 2 ^ 64) ∧ Q (.int (n ^ k.toNat)) H
theorem use__law_raised {n k : Int} {H : Hp} {Q : VK} {E : XK} (h : 0 ≤ k ∧ k ≤ 80) (hn : -(2 ^ 64) < n ∧ n < 2 ^ 64) (q : Q (.int (n ^ k.toNat)) H) : sp__law_raised K ([.int n, .int k] ++ []) H Q E := ⟨n, k, rfl, h, hn, q⟩
theorem ok__law_raised (T : Tx K mg) : FnOk P w K mg base CX0 1 T.f__law_raised T.fd__law_raised ["number", "many"] (sp__law_raised K) := by
  refine T.F__law_raised.ok sc__law_raised (fun vs H Q E h => ?_) (fun cdv A outer s H vs Q E hr h => ?_)
  · obtain ⟨n, k, rfl, hk, hn, q⟩ := h; rfl
  obtain ⟨n, k, rfl, hk, hn, q⟩ := h
  refine ⟨_, (pss_cons (ps_set (i := 2) sc__law_raised.nd rfl (by first | exact .inl rfl | exact .inr rfl) pe_int)
      (pss_cons (ps_for PassesOwn.never (by rfl) (pi_range1 (by rfl) T.z_range (pa_cons (pv 1) pa_nil)) (pg_name (i := 3) sc__law_raised.nd rfl (by first | exact .inl rfl | exact .inr rfl)) (pss_one (ps_set (i := 2) sc__law_raised.nd rfl (by first | exact .inl rfl | exact .inr rfl) (pe_op op_mulU (pv 2) (pv 0)))))
      (pss_one (ps_ret (pv 2))))), ?_⟩
  refine HX.start_ (σ := [some (.int n : V), some (.int k : V), none, none]) rfl ?_
  walk_at "hr"
  refine ⟨by omega, by omega, ?_⟩
  refine for_range (lo := 0) (n := k.toNat) (fun i σ H' => H' = H ∧ ∃ y, σ = [some (.int n), some (.int k), some (.int (n ^ i)), y]) ⟨rfl, none, by rw [Int.pow_zero]⟩ ?_ ?_
  · rintro i σ H' hi ⟨rfl, y, rfl⟩
    walk_at "hr"
    exact ⟨rfl, _, by rw [Int.pow_succ]⟩
  · rintro σ H' ⟨rfl, y, rfl⟩
    walk_at "hr"
    exact q
local macro_rules | `(tactic| walk_at "hu") => `(tactic| ((with_reducible refine use__law_raised ?c ?d ?_); (case c => constructor <;> omega); (case d => first | assumption | (constructor <;> omega))))
def sp__law_sum (K : PySem.W.Frag) : Sp := fun vs H Q _ => ∃ a b c d p : Int, vs = [.int a, .int b, .int c, .int d, .int p] ∧ Ok4 a b c d ∧ (-80 ≤ p ∧ p ≤ 80) ∧ ∀ H', Same H H' → Q (.int (S a b c d p)) H'
theorem ok__law_sum (T : Tx K mg) : FnOk P w K mg base CX0 2 T.f__law_sum T.fd__law_sum ["a", "b", "c", "d", "power"] (sp__law_sum K) := by
  refine T.F__law_sum.ok sc__law_sum (fun vs H Q E h => ?_) (fun cdv A outer s H vs Q E hr h => ?_)
  · obtain ⟨a, b, c, d, p, rfl, o, hp, q⟩ := h; rfl
  obtain ⟨a, b, c, d, p, rfl, o, hp, q⟩ := h
  refine ⟨_, (pss_cons (ps_if (pt_cmpR op_lt (pv 4) pe_int (nomark _)) (pss_one (ps_asg (pe_tup (pa_cons (pe_op op_mulU (pe_op op_mulU (pv 1) (pv 2)) (pv 3)) (pa_cons (pe_op op_mulU (pe_op op_mulU (pv 0) (pv 2)) (pv 3)) (pa_cons (pe_op op_mulU (pe_op op_mulU (pv 0) (pv 1)) (pv 3)) (pa_cons (pe_op op_mulU (pe_op op_mulU (pv 0) (pv 1)) (pv 2)) pa_nil))))) (pg_tupK (K := K) 4 (by rfl) (pgs_cons (pg_name (i := 0) sc__law_sum.nd rfl (by first | exact .inl rfl | exact .inr rfl)) (pgs_cons (pg_name (i := 1) sc__law_sum.nd rfl (by first | exact .inl rfl | exact .inr rfl)) (pgs_cons (pg_name (i := 2) sc__law_sum.nd rfl (by first | exact .inl rfl | exact .inr rfl)) (pgs_cons (pg_name (i := 3) sc__law_sum.nd rfl (by first | exact .inl rfl | exact .inr rfl)) pgs_nil))))))) pss_nil)
      (pss_cons (ps_set (i := 5) sc__law_sum.nd rfl (by first | exact .inl rfl | exact .inr rfl) (pe_callB call_absU (by rfl) T.z_abs (by decide +kernel) (pa_cons (pv 4) pa_nil)))
      (pss_one (ps_ret (pe_op op_sub (pe_op op_sub (pe_op (op_addK (K := K)) (pe_call (ok__law_raised T) (hr.mono (by decide)) (by rfl) T.g__law_raised T.F__law_raised.kp T.b__law_raised .nil pass0 (pa_cons (pv 0) (pa_cons (pv 5) pa_nil))) (pe_call (ok__law_raised T) (hr.mono (by decide)) (by rfl) T.g__law_raised T.F__law_raised.kp T.b__law_raised .nil pass0 (pa_cons (pv 3) (pa_cons (pv 5) pa_nil)))) (pe_call (ok__law_raised T) (hr.mono (by decide)) (by rfl) T.g__law_raised T.F__law_raised.kp T.b__law_raised .nil pass0 (pa_cons (pv 1) (pa_cons (pv 5) pa_nil)))) (pe_call (ok__law_raised T) (hr.mono (by decide)) (by rfl) T.g__law_raised T.F__law_raised.kp T.b__law_raised .nil pass0 (pa_cons (pv 2) (pa_cons (pv 5) pa_nil)))))))), ?_⟩
  refine HX.start_ (σ := [some (.int a : V), some (.int b : V), some (.int c : V), some (.int d : V), some (.int p : V), none]) rfl ?_
  obtain ⟨ha, hb, hc, hd⟩ := id o
  walk_at "hr"
  refine HX.ited_ (fun h => ?_) (fun h => ?_)
  · walk_at "hr"
    intro t ht
    refine ⟨t, _, rfl, SqT.of upd_same, rfl, ?_⟩
    walk_at "hr"
    have e : (if p < 0 then -p else p) = -p := if_pos h
    rw [e]
    have h1 := prod3_bd hb hc hd
    have h2 := prod3_bd ha hc hd
    have h3 := prod3_bd ha hb hd
    have h4 := prod3_bd ha hb hc
    walk_at "hr"
    have e3 : S a b c d p = _ := if_pos h
    rw [← e3]
    exact q _ (HX.same_new ht)
  · walk_at "hr"
    have e : (if p < 0 then -p else p) = p := if_neg h
    rw [e]
    walk_at "hr"
    have e3 : S a b c d p = _ := if_neg h
    rw [← e3]
    exact q _ (Same.refl _)
def sp__law_sign (K : PySem.W.Frag) : Sp := fun vs H Q _ => ∃ x : Int, vs = [.int x] ∧ Q (.int (sgn x)) H
theorem ok__law_sign (T : Tx K mg) : FnOk P w K mg base CX0 1 T.f__law_sign T.fd__law_sign ["number"] (sp__law_sign K) := by
  refine T.F__law_sign.ok sc__law_sign (fun vs H Q E h => ?_) (fun cdv A outer s H vs Q E hr h => ?_)
  · obtain ⟨x, rfl, q⟩ := h; rfl
  obtain ⟨x, rfl, q⟩ := h
  refine ⟨_, (pss_one (ps_ret (pe_op op_sub (pe_callTy call_intU (by rfl) T.z_int (by decide +kernel) (pa_cons (pe_cmpR op_gt (pv 0) pe_int (nomark _)) pa_nil)) (pe_callTy call_intU (by rfl) T.z_int (by decide +kernel) (pa_cons (pe_cmpR op_lt (pv 0) pe_int (nomark _)) pa_nil))))), ?_⟩
  refine HX.start_ (σ := [some (.int x : V)]) rfl ?_
  walk_at "hr"
  exact q
theorem use__law_sign {x : Int} {H : Hp} {Q : VK} {E : XK} (q : Q (.int (sgn x)) H) : sp__law_sign K ([.int x] ++ []) H Q E := ⟨x, rfl, q⟩
local macro_rules | `(tactic| walk_at "hu") => `(tactic| with_reducible refine use__law_sign ?_)
def sp__law_is_by (K : PySem.W.Frag) : Sp := fun vs H Q _ => ∃ a b c d p : Int, vs = [.int a, .int b, .int c, .int d, .int p] ∧ Ok4 a b c d ∧ (-80 ≤ p ∧ p ≤ 80) ∧ ∀ H', Same H H' → Q (.bl (By a b c d p)) H'
theorem ok__law_is_by (T : Tx K mg) : FnOk P w K mg base CX0 3 T.f__law_is_by T.fd__law_is_by ["a", "b", "c", "d", "power"] (sp__law_is_by K) := by
  refine T.F__law_is_by.ok sc__law_is_by (fun vs H Q E h => ?_) (fun cdv A outer s H vs Q E hr h => ?_)
  · obtain ⟨a, b, c, d, p, rfl, o, hp, q⟩ := h; rfl
  obtain ⟨a, b, c, d, p, rfl, o, hp, q⟩ := h
  refine ⟨_, (pss_one (ps_ret (pe_ifExp (pt_cmpR (op_eqK (K := K) hr.units) (pv 4) pe_int (nomark _)) (pe_cmpR (op_eqK (K := K) hr.units) (pe_op op_mulU (pv 0) (pv 3)) (pe_op op_mulU (pv 1) (pv 2)) (nomark _)) (pe_cmpR (op_eqK (K := K) hr.units) (pe_call (ok__law_sum T) (hr.mono (by decide)) (by rfl) T.g__law_sum T.F__law_sum.kp T.b__law_sum .nil pass0 (pa_cons (pv 0) (pa_cons (pv 1) (pa_cons (pv 2) (pa_cons (pv 3) (pa_cons (pv 4) pa_nil)))))) pe_int (nomark _))))), ?_⟩
  refine HX.start_ (σ := [some (.int a : V), some (.int b : V), some (.int c : V), some (.int d : V), some (.int p : V)]) rfl ?_
  walk_at "hr"
  obtain ⟨ha, hb, hc, hd⟩ := id o
  refine HX.ited_ (fun h => ?_) (fun h => ?_)
  · walk_at "hr"
    have e : By a b c d p = decide (a * d = b * c) := if_pos h
    rw [← e]
    exact q _ (Same.refl _)
  · walk_at "hr"
    refine ⟨a, b, c, d, p, rfl, o, hp, fun H' e => ?_⟩
    walk_at "hr"
    have e2 : By a b c d p = decide (S a b c d p = 0) := if_neg h
    rw [← e2]
    exact q _ e
/-- a new list of four -/
def Four (H : Hp) (a c : Addr) (ns : List Int) (n : Nat) (m : Int) (Q : VK) : Prop := ∀ p H' x y z u, Kept a H H' → Hat H' a c ns n → H' p = some (.lst [.int x, .int y, .int z, .int u]) → p ≠ a → (1 ≤ x ∧ x ≤ m) → (1 ≤ y ∧ y ≤ m) → (1 ≤ z ∧ z ≤ m) → (1 ≤ u ∧ u ≤ m) → Q (.ref p) H'
def sp__law_steps (K : PySem.W.Frag) : Sp := fun vs H Q _ => ∃ (a c : Addr) (m : Int) (ns : List Int) (n : Nat), vs = [.ref a, .int m] ∧ Hat H a c ns n ∧ n ≤ 90000 ∧ (1 ≤ m ∧ m ≤ 300000) ∧ Four H a c ns (n + 4) (2 * m) Q
theorem ok__law_steps (T : Tx K mg) : FnOk P w K mg base CX0 2 T.f__law_steps T.fd__law_steps ["hat", "most"] (sp__law_steps K) := by
  refine T.F__law_steps.ok sc__law_steps (fun vs H Q E h => ?_) (fun cdv A outer s H vs Q E hr h => ?_)
  · obtain ⟨a, c, m, ns, n, rfl, hh, hn, hm, q⟩ := h; rfl
  obtain ⟨a, c, m, ns, n, rfl, hh, hn, hm, q⟩ := h
  refine ⟨_, (pss_cons (ps_par3 (i := 2) (j := 3) (l := 4) (by rfl) sc__law_steps.nd rfl rfl rfl (by decide) (by decide) (by decide) rfl rfl rfl (pa_cons (pe_op (op_addK (K := K)) pe_int (pe_call (ok__law_lot T) (hr.mono (by decide)) (by rfl) T.g__law_lot T.F__law_lot.kp T.b__law_lot .nil pass0 (pa_cons (pv 0) (pa_cons (pv 1) pa_nil)))) (pa_cons (pe_op (op_addK (K := K)) pe_int (pe_call (ok__law_lot T) (hr.mono (by decide)) (by rfl) T.g__law_lot T.F__law_lot.kp T.b__law_lot .nil pass0 (pa_cons (pv 0) (pa_cons (pv 1) pa_nil)))) (pa_cons (pe_call (ok__law_lot T) (hr.mono (by decide)) (by rfl) T.g__law_lot T.F__law_lot.kp T.b__law_lot .nil pass0 (pa_cons (pv 0) (pa_cons (pv 1) pa_nil))) pa_nil))) (by rfl))
      (pss_one (ps_ret (pe_ifExp (pt_cmpR (op_eqK (K := K) hr.units) (pe_call (ok__law_lot T) (hr.mono (by decide)) (by rfl) T.g__law_lot T.F__law_lot.kp T.b__law_lot .nil pass0 (pa_cons (pv 0) (pa_cons pe_int pa_nil))) pe_int (nomark _)) (pe_lst (pa_cons (pv 2) (pa_cons (pe_op (op_addK (K := K)) (pv 2) (pv 4)) (pa_cons (pv 3) (pa_cons (pe_op (op_addK (K := K)) (pv 3) (pv 4)) pa_nil))))) (pe_lst (pa_cons (pe_op (op_addK (K := K)) (pv 2) (pv 4)) (pa_cons (pv 2) (pa_cons (pe_op (op_addK (K := K)) (pv 3) (pv 4)) (pa_cons (pv 3) pa_nil))))))))), ?_⟩
  refine HX.start_ (σ := [some (.ref a : V), some (.int m : V), none, none, none]) rfl ?_
  walk_at "hr"
  intro d1 H1 b1 b1' k1 h1
  walk_at "hr"
  intro d2 H2 b2 b2' k2 h2
  walk_at "hr"
  intro d3 H3 b3 b3' k3 h3
  walk_at "hr"
  intro d4 H4 b4 b4' k4 h4
  walk_at "hr"
  have kk := ((k1.trans k2).trans k3).trans k4
  refine HX.ited_ (fun h => ?_) (fun h => ?_)
  · walk_at "hr"
    intro p hp
    exact q p _ _ _ _ _ (kept_new kk hp) (h4.new hp) upd_same (h4.na hp) (by omega) (by omega) (by omega) (by omega)
  · walk_at "hr"
    intro p hp
    exact q p _ _ _ _ _ (kept_new kk hp) (h4.new hp) upd_same (h4.na hp) (by omega) (by omega) (by omega) (by omega)
theorem use_steps {a c : Addr} {m : Int} {ns : List Int} {n : Nat} {H : Hp} {Q : VK} {E : XK} (hh : Hat H a c ns n) (hn : n ≤ 90000) (hm : 1 ≤ m ∧ m ≤ 300000) (q : Four H a c ns (n + 4) (2 * m) Q) : sp__law_steps K ([.ref a, .int m] ++ []) H Q E := ⟨a, c, m, ns, n, rfl, hh, hn, hm, q⟩
local macro_rules | `(tactic| walk_at "hu") => `(tactic| ((with_reducible refine' use_steps ?h ?n ?m ?_); (case h => assumption); (case n => omega); (case m => constructor <;> omega)))
theorem abs_bd {x y : Int} (hx : 0 ≤ x ∧ x ≤ 160000) (hy : 0 ≤ y ∧ y ≤ 160000) : (if x - y < 0 then -(x - y) else x - y) ≤ 320000 := by
  split <;> omega
def sp__law_squares (K : PySem.W.Frag) : Sp := fun vs H Q _ => ∃ (a c : Addr) (ns : List Int) (n : Nat), vs = [.ref a] ∧ Hat H a c ns n ∧ n ≤ 90000 ∧ Four H a c ns (n + 4) 320000 Q
theorem ok__law_squares (T : Tx K mg) : FnOk P w K mg base CX0 2 T.f__law_squares T.fd__law_squares ["hat"] (sp__law_squares K) := by
  refine T.F__law_squares.ok sc__law_squares (fun vs H Q E h => ?_) (fun cdv A outer s H vs Q E hr h => ?_)
  · obtain ⟨a, c, ns, n, rfl, hh, hn, q⟩ := h; rfl
  obtain ⟨a, c, ns, n, rfl, hh, hn, q⟩ := h
  refine ⟨_, (pss_cons (ps_asg (pe_lc (own := [("turn", 1)]) (g := gName 1) (tt := tYes) (by rfl) sc__law_squares.nd (pi_range1 (by rfl) T.z_range (pa_cons pe_int pa_nil)) (blkOk_by (own := [("turn", 1)]) (N := n__law_squares) (sc := defScope s__law_squares) (by decide +kernel)) (fun _ _ _ _ _ => (pg_name (i := 1) sc__law_squares.nd rfl (by first | exact .inl rfl | exact .inr rfl))) (fun _ _ _ _ _ => pts_nil) (fun _ _ _ _ _ => (pe_op (op_addK (K := K)) pe_int (pe_call (ok__law_lot T) (hr.mono (by decide)) (by rfl) T.g__law_lot T.F__law_lot.kp T.b__law_lot .nil pass0 (pa_cons (pv 0) (pa_cons pe_int pa_nil)))))) (pg_unlK (K := K) 4 (by rfl) (pgs_cons (pg_name (i := 2) sc__law_squares.nd rfl (by first | exact .inl rfl | exact .inr rfl)) (pgs_cons (pg_name (i := 3) sc__law_squares.nd rfl (by first | exact .inl rfl | exact .inr rfl)) (pgs_cons (pg_name (i := 4) sc__law_squares.nd rfl (by first | exact .inl rfl | exact .inr rfl)) (pgs_cons (pg_name (i := 5) sc__law_squares.nd rfl (by first | exact .inl rfl | exact .inr rfl)) pgs_nil))))))
      (pss_cons (ps_asg (pe_tup (pa_cons (pe_callB call_absU (by rfl) T.z_abs (by decide +kernel) (pa_cons (pe_op op_sub (pe_op op_mulU (pv 2) (pv 3)) (pe_op op_mulU (pv 4) (pv 5))) pa_nil)) (pa_cons (pe_callB call_absU (by rfl) T.z_abs (by decide +kernel) (pa_cons (pe_op op_sub (pe_op op_mulU (pv 2) (pv 5)) (pe_op op_mulU (pv 3) (pv 4))) pa_nil)) (pa_cons (pe_op (op_addK (K := K)) (pe_op op_mulU (pv 2) (pv 3)) (pe_op op_mulU (pv 4) (pv 5))) (pa_cons (pe_op (op_addK (K := K)) (pe_op op_mulU (pv 2) (pv 5)) (pe_op op_mulU (pv 3) (pv 4))) pa_nil))))) (pg_tupK (K := K) 4 (by rfl) (pgs_cons (pg_name (i := 6) sc__law_squares.nd rfl (by first | exact .inl rfl | exact .inr rfl)) (pgs_cons (pg_name (i := 7) sc__law_squares.nd rfl (by first | exact .inl rfl | exact .inr rfl)) (pgs_cons (pg_name (i := 8) sc__law_squares.nd rfl (by first | exact .inl rfl | exact .inr rfl)) (pgs_cons (pg_name (i := 9) sc__law_squares.nd rfl (by first | exact .inl rfl | exact .inr rfl)) pgs_nil))))))
      (pss_one (ps_ret (pe_ifExp (PW.pt (pw_and (pt_cmpR op_gt (pv 6) pe_int (nomark _)) (pw_and1 (pt_cmpR op_gt (pv 7) pe_int (nomark _))))) (pe_lst (pa_cons (pv 6) (pa_cons (pv 7) (pa_cons (pv 8) (pa_cons (pv 9) pa_nil))))) (pe_lst (pa_cons (pv 2) (pa_cons (pv 2) (pa_cons (pv 3) (pa_cons (pv 3) pa_nil)))))))))), ?_⟩
  refine HX.start_ (σ := [some (.ref a : V), none, none, none, none, none, none, none, none, none]) rfl ?_
  walk_at "hr"
  refine ⟨by omega, by omega, ?_⟩
  intro D hD
  refine HX.lcRd (dn := 1) (fun i ys => ∀ y ∈ ys, ∃ z : Int, y = .int z ∧ 1 ≤ z ∧ z ≤ 400) hh hD (by decide) (fun _ => rfl) (fun _ h => nomatch h) ?_ ?_
  · intro i ys H' R hi hy r k h cont
    walk_at "hw"
    have hi4 : i < 4 := hi
    walk_at "hr"
    intro d H2 b b' k2 h2
    walk_at "hr"
    refine cont _ _ k2 (h2.mono (by omega)) ?_
    intro y hyy
    rcases List.mem_append.mp hyy with z | z
    · exact r y z
    · rw [List.mem_singleton] at z
      exact ⟨_, z, by omega, by omega⟩
  · intro ys H' hl r k h hL
    have hl4 : ys.length = 4 := hl
    match ys, hl4 with
    | [y1, y2, y3, y4], _ =>
    obtain ⟨k', rfl, e1, e1'⟩ := r y1 (by simp)
    obtain ⟨m', rfl, e2, e2'⟩ := r y2 (by simp)
    obtain ⟨n', rfl, e3, e3'⟩ := r y3 (by simp)
    obtain ⟨o', rfl, e4, e4'⟩ := r y4 (by simp)
    refine ⟨D, _, rfl, SqL.of hL, rfl, ?_⟩
    have p1 := prod2_bd (x := k') (y := m') (m := 400) (n := 400) (by omega) (by omega)
    have p2 := prod2_bd (x := n') (y := o') (m := 400) (n := 400) (by omega) (by omega)
    have p3 := prod2_bd (x := k') (y := o') (m := 400) (n := 400) (by omega) (by omega)
    have p4 := prod2_bd (x := m') (y := n') (m := 400) (n := 400) (by omega) (by omega)
    have s1 : 1 ≤ k' * m' := Int.mul_pos (show (0 : Int) < k' by omega) (show (0 : Int) < m' by omega)
    have s2 : 1 ≤ k' * o' := Int.mul_pos (show (0 : Int) < k' by omega) (show (0 : Int) < o' by omega)
    have a1 := abs_bd (x := k' * m') (y := n' * o') (by omega) (by omega)
    have a2 := abs_bd (x := k' * o') (y := m' * n') (by omega) (by omega)
    have hh' : Hat H' a c ns (n + 4) := h
    walk_at "hr"
    intro t ht
    refine ⟨t, _, rfl, SqT.of upd_same, rfl, ?_⟩
    have kk := kept_new (o := .tup [V.int (if k' * m' - n' * o' < 0 then -(k' * m' - n' * o') else k' * m' - n' * o'), V.int (if k' * o' - m' * n' < 0 then -(k' * o' - m' * n') else k' * o' - m' * n'), V.int (k' * m' + n' * o'), V.int (k' * o' + m' * n')]) k ht
    have h2 := hh'.new (o := .tup [V.int (if k' * m' - n' * o' < 0 then -(k' * m' - n' * o') else k' * m' - n' * o'), V.int (if k' * o' - m' * n' < 0 then -(k' * o' - m' * n') else k' * o' - m' * n'), V.int (k' * m' + n' * o'), V.int (k' * o' + m' * n')]) ht
    walk_at "hr"
    refine HX.ited_ (fun h => ?_) (fun h => ?_)
    · walk_at "hr"
      refine HX.ited_ (fun h3 => ?_) (fun h3 => ?_)
      · walk_at "hr"
        intro p hp
        exact q p _ _ _ _ _ (kept_new kk hp) (h2.new hp) upd_same (h2.na hp) (by omega) (by omega) (by omega) (by omega)
      · walk_at "hr"
        intro p hp
        exact q p _ _ _ _ _ (kept_new kk hp) (h2.new hp) upd_same (h2.na hp) (by omega) (by omega) (by omega) (by omega)
    · walk_at "hr"
      intro p hp
      exact q p _ _ _ _ _ (kept_new kk hp) (h2.new hp) upd_same (h2.na hp) (by omega) (by omega) (by omega) (by omega)
theorem use_squares {a c : Addr} {ns : List Int} {n : Nat} {H : Hp} {Q : VK} {E : XK} (hh : Hat H a c ns n) (hn : n ≤ 90000) (q : Four H a c ns (n + 4) 320000 Q) : sp__law_squares K ([.ref a] ++ []) H Q E := ⟨a, c, ns, n, rfl, hh, hn, q⟩
local macro_rules | `(tactic| walk_at "hu") => `(tactic| ((with_reducible refine' use_squares ?h ?n ?_); (case h => assumption); (case n => omega)))
theorem use_is_by {a b c d p : Int} {H : Hp} {Q : VK} {E : XK} (o : Ok4 a b c d) (hp : -80 ≤ p ∧ p ≤ 80) (q : ∀ H', Same H H' → Q (.bl (By a b c d p)) H') : sp_is_by K ([.int a, .int b, .int c, .int d, .int p] ++ []) H Q E := ⟨a, b, c, d, p, rfl, o, hp, q⟩
theorem S_mid (a b c d p : Int) : S a c b d p = S a b c d p := by
  unfold S
  by_cases h : p < 0
  · rw [if_pos h, if_pos h, show c * b * d = b * c * d by ac_rfl, show a * c * b = a * b * c by ac_rfl]
    omega
  · rw [if_neg h, if_neg h]
    omega
theorem S_turn (a b c d p : Int) : S b a d c p = - S a b c d p := by
  unfold S
  by_cases h : p < 0
  · rw [if_pos h, if_pos h, show a * d * c = a * c * d by ac_rfl, show b * a * d = a * b * d by ac_rfl, show b * d * c = b * c * d by ac_rfl, show b * a * c = a * b * c by ac_rfl]
    omega
  · rw [if_neg h, if_neg h]
    omega
theorem S_zero (a b c d : Int) : S a b c d 0 = 0 := by
  unfold S
  rw [if_neg (by omega)]
  show a ^ 0 + d ^ 0 - b ^ 0 - c ^ 0 = 0
  rw [Int.pow_zero, Int.pow_zero, Int.pow_zero, Int.pow_zero]
  rfl
theorem S_one (a b c d : Int) : S a b c d 1 = a + d - b - c := by
  unfold S
  rw [if_neg (by omega)]
  show a ^ 1 + d ^ 1 - b ^ 1 - c ^ 1 = _
  have e : ∀ x : Int, x ^ 1 = x := fun x => by rw [Int.pow_succ, Int.pow_zero, Int.one_mul]
  rw [e, e, e, e]
theorem By_mid (a b c d p : Int) : By a c b d p = By a b c d p := by
  unfold By
  rw [S_mid, Int.mul_comm c b]
theorem By_turn (a b c d p : Int) : By b a d c p = By a b c d p := by
  unfold By
  rw [S_turn]
  by_cases h : p = 0
  · rw [if_pos h, if_pos h]
    exact decide_eq_decide.mpr ⟨fun e => e.symm, fun e => e.symm⟩
  · rw [if_neg h, if_neg h]
    exact decide_eq_decide.mpr ⟨fun e => by omega, fun e => by omega⟩
theorem By_swap (a b c d p : Int) : By c d a b p = By a b c d p := by rw [← By_mid, By_turn, By_mid]
theorem By_same (a b p : Int) : By a b a b p = true := by
  unfold By
  by_cases h : p = 0
  · rw [if_pos h]
    exact decide_eq_true (Int.mul_comm a b)
  · rw [if_neg h]
    refine decide_eq_true ?_
    unfold S
    by_cases h2 : p < 0
    · rw [if_pos h2, show b * a * b = a * b * b by ac_rfl, show a * a * b = a * b * a by ac_rfl]
      omega
    · rw [if_neg h2]
      omega
theorem Ok4.mid {a b c d : Int} (o : Ok4 a b c d) : Ok4 a c b d := ⟨o.a, o.c, o.b, o.d⟩
theorem Ok4.turn {a b c d : Int} (o : Ok4 a b c d) : Ok4 b a d c := ⟨o.b, o.a, o.d, o.c⟩
theorem Ok4.swap {a b c d : Int} (o : Ok4 a b c d) : Ok4 c d a b := ⟨o.c, o.d, o.a, o.b⟩
def sp__law_four (K : PySem.W.Frag) : Sp := fun vs H Q _ => ∃ (a c : Addr) (ns : List Int) (n : Nat), vs = [.ref a] ∧ Hat H a c ns n ∧ n ≤ 80000 ∧ Four H a c ns (n + 20) 1000000 Q
theorem Four.of {H H' : Hp} {a c : Addr} {ns : List Int} {n n' : Nat} {m m' : Int} {Q : VK} (q : Four H a c ns n m Q) (k : Kept a H H') (hn : n' ≤ n) (hm : m' ≤ m) : Four H' a c ns n' m' Q := fun p H2 x y z u k2 h2 e ne b1 b2 b3 b4 =>
  q p H2 x y z u (k.trans k2) (h2.mono hn) e ne (by omega) (by omega) (by omega) (by omega)
theorem three_mul {x y z u : Int} (hx : 1 ≤ x ∧ x ≤ 30) (hy : 1 ≤ y ∧ y ≤ 30) (hz : 1 ≤ z ∧ z ≤ 30) (hu : 1 ≤ u ∧ u ≤ 30) : 1 ≤ x * y * z * u / u ∧ x * y * z * u / u ≤ 1000000 := by
  rw [Int.mul_ediv_cancel _ (by omega)]
  have h1 := prod2_bd (x := x) (y := y) (m := 30) (n := 30) (by omega) (by omega)
  have h2 := prod2_bd (x := x * y) (y := z) (m := 30 * 30) (n := 30) h1 (by omega)
  have h3 : 0 < x * y * z := Int.mul_pos (Int.mul_pos (by omega) (by omega)) (by omega)
  omega
theorem ok__law_four (T : Tx K mg) : FnOk P w K mg base CX0 3 T.f__law_four T.fd__law_four ["hat"] (sp__law_four K) := by
  refine T.F__law_four.ok sc__law_four (fun vs H Q E h => ?_) (fun cdv A outer s H vs Q E hr h => ?_)
  · obtain ⟨a, c, ns, n, rfl, hh, hn, q⟩ := h; rfl
  obtain ⟨a, c, ns, n, rfl, hh, hn, q⟩ := h
  refine ⟨_, (pss_cons (ps_set (i := 1) sc__law_four.nd rfl (by first | exact .inl rfl | exact .inr rfl) (pe_call (ok__law_lot T) (hr.mono (by decide)) (by rfl) T.g__law_lot T.F__law_lot.kp T.b__law_lot .nil pass0 (pa_cons (pv 0) (pa_cons pe_int pa_nil))))
      (pss_cons (ps_if (pt_cmpR (op_eqK (K := K) hr.units) (pv 1) pe_int (nomark _)) (pss_one (ps_ret (pe_call (ok__law_steps T) (hr.mono (by decide)) (by rfl) T.g__law_steps T.F__law_steps.kp T.b__law_steps .nil pass0 (pa_cons (pv 0) (pa_cons (pe_call (ok__law_one T) (hr.mono (by decide)) (by rfl) T.g__law_one T.F__law_one.kp T.b__law_one .nil pass0 (pa_cons (pv 0) (pa_cons (pe_lst (pa_cons pe_int (pa_cons pe_int (pa_cons pe_int pa_nil)))) pa_nil))) pa_nil))))) pss_nil)
      (pss_cons (ps_if (pt_cmpR (op_eqK (K := K) hr.units) (pv 1) pe_int (nomark _)) (pss_cons (ps_asg (pe_lc (own := [("turn", 2)]) (g := gName 2) (tt := tYes) (by rfl) sc__law_four.nd (pi_range1 (by rfl) T.z_range (pa_cons pe_int pa_nil)) (blkOk_by (own := [("turn", 2)]) (N := n__law_four) (sc := defScope s__law_four) (by decide +kernel)) (fun _ _ _ _ _ => (pg_name (i := 2) sc__law_four.nd rfl (by first | exact .inl rfl | exact .inr rfl))) (fun _ _ _ _ _ => pts_nil) (fun _ _ _ _ _ => (pe_op (op_addK (K := K)) pe_int (pe_call (ok__law_lot T) (hr.mono (by decide)) (by rfl) T.g__law_lot T.F__law_lot.kp T.b__law_lot .nil pass0 (pa_cons (pv 0) (pa_cons pe_int pa_nil)))))) (pg_unlK (K := K) 4 (by rfl) (pgs_cons (pg_name (i := 3) sc__law_four.nd rfl (by first | exact .inl rfl | exact .inr rfl)) (pgs_cons (pg_name (i := 4) sc__law_four.nd rfl (by first | exact .inl rfl | exact .inr rfl)) (pgs_cons (pg_name (i := 5) sc__law_four.nd rfl (by first | exact .inl rfl | exact .inr rfl)) (pgs_cons (pg_name (i := 6) sc__law_four.nd rfl (by first | exact .inl rfl | exact .inr rfl)) pgs_nil))))))
      (pss_one (ps_ret (pe_lst (pa_cons (pe_op op_mulU (pv 3) (pv 4)) (pa_cons (pe_op op_mulU (pv 3) (pv 5)) (pa_cons (pe_op op_mulU (pv 6) (pv 4)) (pa_cons (pe_op op_mulU (pv 6) (pv 5)) pa_nil)))))))) pss_nil)
      (pss_cons (ps_if (pt_cmpR (op_eqK (K := K) hr.units) (pv 1) pe_int (nomark _)) (pss_one (ps_ret (pe_call (ok__law_squares T) (hr.mono (by decide)) (by rfl) T.g__law_squares T.F__law_squares.kp T.b__law_squares .nil pass0 (pa_cons (pv 0) pa_nil)))) pss_nil)
      (pss_cons (ps_if (pt_cmpR (op_eqK (K := K) hr.units) (pv 1) pe_int (nomark _)) (pss_cons (ps_set (i := 7) sc__law_four.nd rfl (by first | exact .inl rfl | exact .inr rfl) (pe_call (ok__law_steps T) (hr.mono (by decide)) (by rfl) T.g__law_steps T.F__law_steps.kp T.b__law_steps .nil pass0 (pa_cons (pv 0) (pa_cons pe_int pa_nil))))
      (pss_cons (ps_set (i := 8) sc__law_four.nd rfl (by first | exact .inl rfl | exact .inr rfl) (pe_op op_mulU (pe_op op_mulU (pe_op op_mulU (pe_ix (ix_K (K := K)) (pv 7) pe_int (fun _ _ => rfl)) (pe_ix (ix_K (K := K)) (pv 7) pe_int (fun _ _ => rfl))) (pe_ix (ix_K (K := K)) (pv 7) pe_int (fun _ _ => rfl))) (pe_ix (ix_K (K := K)) (pv 7) pe_int (fun _ _ => rfl))))
      (pss_one (ps_ret (pe_lc (own := [("number", 9)]) (g := gName 9) (tt := tYes) (by rfl) sc__law_four.nd (pi_listK (K := K) (pv 7)) (blkOk_by (own := [("number", 9)]) (N := n__law_four) (sc := defScope s__law_four) (by decide +kernel)) (fun _ _ _ _ _ => (pg_name (i := 9) sc__law_four.nd rfl (by first | exact .inl rfl | exact .inr rfl))) (fun _ _ _ _ _ => pts_nil) (fun _ _ _ _ _ => (pe_op op_fdivU (pv 8) (pv 9)))))))) pss_nil)
      (pss_cons (ps_if (pt_cmpR (op_eqK (K := K) hr.units) (pv 1) pe_int (nomark _)) (pss_cons (ps_par (i := 10) (j := 11) (by rfl) sc__law_four.nd rfl rfl (by decide) rfl rfl (pa_cons (pe_op (op_addK (K := K)) pe_int (pe_call (ok__law_lot T) (hr.mono (by decide)) (by rfl) T.g__law_lot T.F__law_lot.kp T.b__law_lot .nil pass0 (pa_cons (pv 0) (pa_cons pe_int pa_nil)))) (pa_cons (pe_op (op_addK (K := K)) pe_int (pe_call (ok__law_lot T) (hr.mono (by decide)) (by rfl) T.g__law_lot T.F__law_lot.kp T.b__law_lot .nil pass0 (pa_cons (pv 0) (pa_cons pe_int pa_nil)))) pa_nil)) (by rfl))
      (pss_one (ps_ret (pe_call (ok__law_one T) (hr.mono (by decide)) (by rfl) T.g__law_one T.F__law_one.kp T.b__law_one .nil pass0 (pa_cons (pv 0) (pa_cons (pe_lst (pa_cons (pe_lst (pa_cons (pv 10) (pa_cons (pv 10) (pa_cons (pv 11) (pa_cons (pv 11) pa_nil))))) (pa_cons (pe_lst (pa_cons (pv 10) (pa_cons (pv 11) (pa_cons (pv 10) (pa_cons (pv 11) pa_nil))))) (pa_cons (pe_lst (pa_cons (pv 10) (pa_cons (pv 10) (pa_cons (pv 10) (pa_cons (pv 10) pa_nil))))) pa_nil)))) pa_nil)))))) pss_nil)
      (pss_one (ps_ret (pe_lc (own := [("turn", 2)]) (g := gName 2) (tt := tYes) (by rfl) sc__law_four.nd (pi_range1 (by rfl) T.z_range (pa_cons pe_int pa_nil)) (blkOk_by (own := [("turn", 2)]) (N := n__law_four) (sc := defScope s__law_four) (by decide +kernel)) (fun _ _ _ _ _ => (pg_name (i := 2) sc__law_four.nd rfl (by first | exact .inl rfl | exact .inr rfl))) (fun _ _ _ _ _ => pts_nil) (fun _ _ _ _ _ => (pe_op (op_addK (K := K)) pe_int (pe_call (ok__law_lot T) (hr.mono (by decide)) (by rfl) T.g__law_lot T.F__law_lot.kp T.b__law_lot .nil pass0 (pa_cons (pv 0) (pa_cons (pe_call (ok__law_one T) (hr.mono (by decide)) (by rfl) T.g__law_one T.F__law_one.kp T.b__law_one .nil pass0 (pa_cons (pv 0) (pa_cons (pe_lst (pa_cons pe_int (pa_cons pe_int (pa_cons pe_int pa_nil)))) pa_nil))) pa_nil)))))))))))))), ?_⟩
  refine HX.start_ (σ := [some (.ref a : V), none, none, none, none, none, none, none, none, none, none, none]) rfl ?_
  walk_at "hr"
  intro way H1 b1 b1' k1 h1
  walk_at "hr"
  refine HX.ited_ (fun w0 => ?_) (fun w0 => ?_)
  · -- steps of a drawn size
    walk_at "hr"
    intro l hl
    have h2 := h1.new (o := .lst [V.int 300000, V.int 99, V.int 9]) hl
    have k2 := kept_new (o := .lst [V.int 300000, V.int 99, V.int 9]) k1 hl
    refine use_one (E := E0) h2 (by omega) (SqL.of upd_same) (h1.na hl) ⟨Nat.zero_lt_succ _, Nat.le_of_ble_eq_true rfl⟩ fun v H3 hv k3 h3 => ?_
    obtain ⟨m, rfl, hm⟩ : ∃ m : Int, v = .int m ∧ 1 ≤ m ∧ m ≤ 300000 := by
      simp only [List.mem_cons, List.not_mem_nil, or_false] at hv
      rcases hv with rfl | rfl | rfl
      · exact ⟨_, rfl, by omega, by omega⟩
      · exact ⟨_, rfl, by omega, by omega⟩
      · exact ⟨_, rfl, by omega, by omega⟩
    walk_at "hr"
    exact q.of (k2.trans k3) (by omega) (by omega)
  · walk_at "hr"
    refine HX.ited_ (fun w1 => ?_) (fun w1 => ?_)
    · -- equal times
      walk_at "hr"
      refine ⟨by omega, by omega, ?_⟩
      intro D hD
      refine HX.lcRd (dn := 1) (fun i ys => ∀ y ∈ ys, ∃ z : Int, y = .int z ∧ 1 ≤ z ∧ z ≤ 1000) h1 hD (by decide) (fun _ => rfl) (fun _ h => nomatch h) ?_ ?_
      · intro i ys H' R hi hy r k h cont
        walk_at "hw"
        have hi4 : i < 4 := hi
        walk_at "hr"
        intro d H2 b b' k2 h2
        walk_at "hr"
        refine cont _ _ k2 (h2.mono (by omega)) ?_
        intro y hyy
        rcases List.mem_append.mp hyy with z | z
        · exact r y z
        · rw [List.mem_singleton] at z
          exact ⟨_, z, by omega, by omega⟩
      · intro ys H' hl r k h hL
        have hl4 : ys.length = 4 := hl
        match ys, hl4 with
        | [y1, y2, y3, y4], _ =>
        obtain ⟨k', rfl, e1, e1'⟩ := r y1 (by simp)
        obtain ⟨m', rfl, e2, e2'⟩ := r y2 (by simp)
        obtain ⟨n', rfl, e3, e3'⟩ := r y3 (by simp)
        obtain ⟨o', rfl, e4, e4'⟩ := r y4 (by simp)
        refine ⟨D, _, rfl, SqL.of hL, rfl, ?_⟩
        have p1 := prod2_bd (x := k') (y := m') (m := 1000) (n := 1000) (by omega) (by omega)
        have p2 := prod2_bd (x := k') (y := n') (m := 1000) (n := 1000) (by omega) (by omega)
        have p3 := prod2_bd (x := o') (y := m') (m := 1000) (n := 1000) (by omega) (by omega)
        have p4 := prod2_bd (x := o') (y := n') (m := 1000) (n := 1000) (by omega) (by omega)
        have s1 : 0 < k' * m' := Int.mul_pos (by omega) (by omega)
        have s2 : 0 < k' * n' := Int.mul_pos (by omega) (by omega)
        have s3 : 0 < o' * m' := Int.mul_pos (by omega) (by omega)
        have s4 : 0 < o' * n' := Int.mul_pos (by omega) (by omega)
        walk_at "hr"
        intro p hp
        have hh' : Hat H' a c ns (n + 20) := h.mono (by omega)
        exact q p _ _ _ _ _ (kept_new (k1.trans k) hp) (hh'.new hp) upd_same (hh'.na hp) (by omega) (by omega) (by omega) (by omega)
    · walk_at "hr"
      refine HX.ited_ (fun w2 => ?_) (fun w2 => ?_)
      · walk_at "hr"
        exact q.of k1 (by omega) (by omega)
      · walk_at "hr"
        refine HX.ited_ (fun w3 => ?_) (fun w3 => ?_)
        · -- one integer divided
          walk_at "hr"
          intro p H' x y z u kp hp hL hpa bx by' bz bu
          walk_at "hr"
          refine HX.ixL_ (SqL.of hL) rfl ?_
          walk_at "hr"
          refine HX.ixL_ (SqL.of hL) rfl ?_
          walk_at "hr"
          refine HX.ixL_ (SqL.of hL) rfl ?_
          walk_at "hr"
          refine HX.ixL_ (SqL.of hL) rfl ?_
          walk_at "hr"
          refine ⟨p, rfl, ⟨_, SqL.of hL⟩, ?_⟩
          intro D hD
          refine HX.lcLp (xs := [V.int x, .int y, .int z, .int u]) (fun v => match v with | .int i => .int (x * y * z * u / i) | v => v) (SqL.of hL) hD rfl (fun _ => rfl) (fun i v H2 R hv e k => ?_) (fun H2 e hL2 => ?_)
          · have hx2 : ∃ i : Int, v = .int i ∧ 1 ≤ i ∧ i ≤ 30 := by
              match i, hv with
              | 0, hx => cases hx; exact ⟨_, rfl, by omega⟩
              | 1, hx => cases hx; exact ⟨_, rfl, by omega⟩
              | 2, hx => cases hx; exact ⟨_, rfl, by omega⟩
              | 3, hx => cases hx; exact ⟨_, rfl, by omega⟩
            obtain ⟨i', rfl, hi1, hi2⟩ := hx2
            walk_at "hw"
            walk_at "hr"
            exact k _ (Same.refl _)
          · have hh' : Hat H2 a c ns (n + 20) := (hp.same e).mono (by omega)
            have r1 : 1 ≤ x * y * z * u / x ∧ x * y * z * u / x ≤ 1000000 := by
              rw [show x * y * z * u = y * z * u * x by ac_rfl]; exact three_mul (by omega) (by omega) (by omega) (by omega)
            have r2 : 1 ≤ x * y * z * u / y ∧ x * y * z * u / y ≤ 1000000 := by
              rw [show x * y * z * u = x * z * u * y by ac_rfl]; exact three_mul (by omega) (by omega) (by omega) (by omega)
            have r3 : 1 ≤ x * y * z * u / z ∧ x * y * z * u / z ≤ 1000000 := by
              rw [show x * y * z * u = x * y * u * z by ac_rfl]; exact three_mul (by omega) (by omega) (by omega) (by omega)
            have r4 : 1 ≤ x * y * z * u / u ∧ x * y * z * u / u ≤ 1000000 := three_mul (by omega) (by omega) (by omega) (by omega)
            exact q D _ _ _ _ _ ((k1.trans kp).trans (HX.kept_same e)) hh' hL2 (hp.na hD) r1 r2 r3 r4
        · walk_at "hr"
          refine HX.ited_ (fun w4 => ?_) (fun w4 => ?_)
          · -- equal pairs
            walk_at "hr"
            intro d1 H2 c1 c1' k2 h2
            walk_at "hr"
            intro d2 H3 c2 c2' k3 h3
            walk_at "hr"
            intro t1 ht1
            walk_at "hr"
            intro t2 ht2
            walk_at "hr"
            intro t3 ht3
            walk_at "hr"
            intro l hl
            have kk := (k1.trans k2).trans k3
            have g1 := h3.new (o := .lst [V.int (1 + d1), V.int (1 + d1), V.int (1 + d2), V.int (1 + d2)]) ht1
            have g2 := g1.new (o := .lst [V.int (1 + d1), V.int (1 + d2), V.int (1 + d1), V.int (1 + d2)]) ht2
            have g3 := g2.new (o := .lst [V.int (1 + d1), V.int (1 + d1), V.int (1 + d1), V.int (1 + d1)]) ht3
            have g4 := g3.new (o := .lst [V.ref t1, V.ref t2, V.ref t3]) hl
            have m4 := kept_new (o := .lst [V.ref t1, V.ref t2, V.ref t3]) (kept_new (o := .lst [V.int (1 + d1), V.int (1 + d1), V.int (1 + d1), V.int (1 + d1)]) (kept_new (o := .lst [V.int (1 + d1), V.int (1 + d2), V.int (1 + d1), V.int (1 + d2)]) (kept_new (o := .lst [V.int (1 + d1), V.int (1 + d1), V.int (1 + d2), V.int (1 + d2)]) kk ht1) ht2) ht3) hl
            have s2 := HX.same_new (o := .lst [V.int (1 + d1), V.int (1 + d2), V.int (1 + d1), V.int (1 + d2)]) ht2
            have s3 := HX.same_new (o := .lst [V.int (1 + d1), V.int (1 + d1), V.int (1 + d1), V.int (1 + d1)]) ht3
            have s4 := HX.same_new (o := .lst [V.ref t1, V.ref t2, V.ref t3]) hl
            have e1 := s4 t1 _ (s3 t1 _ (s2 t1 _ upd_same))
            have e2 := s4 t2 _ (s3 t2 _ upd_same)
            have e3 := s4 t3 _ upd_same
            refine use_one (E := E0) g4 (by omega) (SqL.of upd_same) (g3.na hl) ⟨Nat.zero_lt_succ _, Nat.le_of_ble_eq_true rfl⟩ fun v H5 hv k5 h5 => ?_
            simp only [List.mem_cons, List.not_mem_nil, or_false] at hv
            rcases hv with rfl | rfl | rfl
            · exact q t1 _ _ _ _ _ (m4.trans k5) (h5.mono (by omega)) (k5 _ _ (h3.na ht1) e1) (h3.na ht1) (by omega) (by omega) (by omega) (by omega)
            · exact q t2 _ _ _ _ _ (m4.trans k5) (h5.mono (by omega)) (k5 _ _ (g1.na ht2) e2) (g1.na ht2) (by omega) (by omega) (by omega) (by omega)
            · exact q t3 _ _ _ _ _ (m4.trans k5) (h5.mono (by omega)) (k5 _ _ (g2.na ht3) e3) (g2.na ht3) (by omega) (by omega) (by omega) (by omega)
          · walk_at "hr"
            refine ⟨by omega, by omega, ?_⟩
            intro D hD
            refine HX.lcRd (dn := 2) (fun i ys => ∀ y ∈ ys, ∃ z : Int, y = .int z ∧ 1 ≤ z ∧ z ≤ 1000000) h1 hD (by decide) (fun _ => rfl) (fun _ h => nomatch h) ?_ ?_
            · intro i ys H' R hi hy r k h cont
              walk_at "hw"
              have hi4 : i < 4 := hi
              walk_at "hr"
              intro l hl
              have h2 := h.new (o := .lst [V.int 9, V.int 99, V.int 1000000]) hl
              have k2 := kept_new (o := .lst [V.int 9, V.int 99, V.int 1000000]) (Kept.refl a H') hl
              refine use_one (E := E0) h2 (by omega) (SqL.of upd_same) (h.na hl) ⟨Nat.zero_lt_succ _, Nat.le_of_ble_eq_true rfl⟩ fun v H3 hv k3 h3 => ?_
              obtain ⟨m, rfl, hm⟩ : ∃ m : Int, v = .int m ∧ 1 ≤ m ∧ m ≤ 1000000 := by
                simp only [List.mem_cons, List.not_mem_nil, or_false] at hv
                rcases hv with rfl | rfl | rfl
                · exact ⟨_, rfl, by omega, by omega⟩
                · exact ⟨_, rfl, by omega, by omega⟩
                · exact ⟨_, rfl, by omega, by omega⟩
              walk_at "hr"
              intro d H4 b b' k4 h4
              walk_at "hr"
              refine cont _ _ ((k2.trans k3).trans k4) (h4.mono (by omega)) ?_
              intro y hyy
              rcases List.mem_append.mp hyy with z | z
              · exact r y z
              · rw [List.mem_singleton] at z
                exact ⟨_, z, by omega, by omega⟩
            · intro ys H' hl r k h hL
              have hl4 : ys.length = 4 := hl
              match ys, hl4 with
              | [y1, y2, y3, y4], _ =>
              obtain ⟨k', rfl, e1, e1'⟩ := r y1 (by simp)
              obtain ⟨m', rfl, e2, e2'⟩ := r y2 (by simp)
              obtain ⟨n', rfl, e3, e3'⟩ := r y3 (by simp)
              obtain ⟨o', rfl, e4, e4'⟩ := r y4 (by simp)
              exact q D _ _ _ _ _ (k1.trans k) (h.mono (by omega)) hL (h1.na hD) ⟨e1, e1'⟩ ⟨e2, e2'⟩ ⟨e3, e3'⟩ ⟨e4, e4'⟩
theorem use_four {a c : Addr} {ns : List Int} {n : Nat} {H : Hp} {Q : VK} {E : XK} (hh : Hat H a c ns n) (hn : n ≤ 80000) (q : Four H a c ns (n + 20) 1000000 Q) : sp__law_four K ([.ref a] ++ []) H Q E := ⟨a, c, ns, n, rfl, hh, hn, q⟩
local macro_rules | `(tactic| walk_at "hu") => `(tactic| ((with_reducible refine' use_four ?h ?n ?_); (case h => assumption); (case n => omega)))
def sp__law_turned_right (K : PySem.W.Frag) : Sp := fun vs H Q _ => ∃ a b c d p : Int, vs = [.int a, .int b, .int c, .int d, .int p, .bl (By a b c d p)] ∧ Ok4 a b c d ∧ (-80 ≤ p ∧ p ≤ 80) ∧ ∀ H', Same H H' → Q (.bl true) H'
theorem ok__law_turned_right (T : Tx K mg) : FnOk P w K mg base CX0 7 T.f__law_turned_right T.fd__law_turned_right ["a", "b", "c", "d", "power", "told"] (sp__law_turned_right K) := by
  refine T.F__law_turned_right.ok sc__law_turned_right (fun vs H Q E h => ?_) (fun cdv A outer s H vs Q E hr h => ?_)
  · obtain ⟨a, b, c, d, p, rfl, o, hp, q⟩ := h; rfl
  obtain ⟨a, b, c, d, p, rfl, o, hp, q⟩ := h
  refine ⟨_, (pss_cons (ps_for PassesOwn.never (by rfl) (pi_tupK (K := K) (pe_tup (pa_cons (pe_tup (pa_cons (pv 0) (pa_cons (pv 1) (pa_cons (pv 2) (pa_cons (pv 3) pa_nil))))) (pa_cons (pe_tup (pa_cons (pv 1) (pa_cons (pv 0) (pa_cons (pv 3) (pa_cons (pv 2) pa_nil))))) (pa_cons (pe_tup (pa_cons (pv 2) (pa_cons (pv 3) (pa_cons (pv 0) (pa_cons (pv 1) pa_nil))))) (pa_cons (pe_tup (pa_cons (pv 3) (pa_cons (pv 2) (pa_cons (pv 1) (pa_cons (pv 0) pa_nil))))) pa_nil)))))) (pg_tupK (K := K) 4 (by rfl) (pgs_cons (pg_name (i := 6) sc__law_turned_right.nd rfl (by first | exact .inl rfl | exact .inr rfl)) (pgs_cons (pg_name (i := 7) sc__law_turned_right.nd rfl (by first | exact .inl rfl | exact .inr rfl)) (pgs_cons (pg_name (i := 8) sc__law_turned_right.nd rfl (by first | exact .inl rfl | exact .inr rfl)) (pgs_cons (pg_name (i := 9) sc__law_turned_right.nd rfl (by first | exact .inl rfl | exact .inr rfl)) pgs_nil))))) (pss_one (ps_if (PW.pt (pw_or (pt_cmpR (op_neK (K := K) hr.units) (pe_call (ok_is_by T) (hr.mono (by decide)) (by rfl) T.g_is_by T.F_is_by.kp T.b_is_by .nil pass0 (pa_cons (pv 6) (pa_cons (pv 7) (pa_cons (pv 8) (pa_cons (pv 9) (pa_cons (pv 4) pa_nil)))))) (pv 5) (nomark _)) (pw_or1 (pt_cmpR (op_neK (K := K) hr.units) (pe_call (ok_is_by T) (hr.mono (by decide)) (by rfl) T.g_is_by T.F_is_by.kp T.b_is_by .nil pass0 (pa_cons (pv 6) (pa_cons (pv 8) (pa_cons (pv 7) (pa_cons (pv 9) (pa_cons (pv 4) pa_nil)))))) (pv 5) (nomark _))))) (pss_one (ps_ret pe_bl)) pss_nil)))
      (pss_one (ps_ret pe_bl))), ?_⟩
  refine HX.start_ (σ := [some (.int a : V), some (.int b : V), some (.int c : V), some (.int d : V), some (.int p : V), some (.bl (By a b c d p) : V), none, none, none, none]) rfl ?_
  walk_at "hr"
  intro t1 h1; walk_at "hr"; intro t2 h2; walk_at "hr"; intro t3 h3; walk_at "hr"; intro t4 h4; walk_at "hr"; intro t5 h5
  have n1 := HX.same_new (o := .tup [V.int a, .int b, .int c, .int d]) h1
  have n2 := HX.same_new (o := .tup [V.int b, .int a, .int d, .int c]) h2
  have n3 := HX.same_new (o := .tup [V.int c, .int d, .int a, .int b]) h3
  have n4 := HX.same_new (o := .tup [V.int d, .int c, .int b, .int a]) h4
  have n5 := HX.same_new (o := .tup [V.ref t1, .ref t2, .ref t3, .ref t4]) h5
  have g5 : (upd _ t5 (.tup [V.ref t1, .ref t2, .ref t3, .ref t4])) t5 = _ := upd_same (H := (upd (upd (upd (upd H t1 (.tup [V.int a, .int b, .int c, .int d])) t2 (.tup [V.int b, .int a, .int d, .int c])) t3 (.tup [V.int c, .int d, .int a, .int b])) t4 (.tup [V.int d, .int c, .int b, .int a])))
  have g4 := n5 t4 _ upd_same
  have g3 := n5 t3 _ (n4 t3 _ upd_same)
  have g2 := n5 t2 _ (n4 t2 _ (n3 t2 _ upd_same))
  have g1 := n5 t1 _ (n4 t1 _ (n3 t1 _ (n2 t1 _ upd_same)))
  have sm := (((n1.trans n2).trans n3).trans n4).trans n5
  refine ⟨t5, rfl, ⟨_, SqT.of upd_same⟩, ?_⟩
  refine HX.unrT (bk := fun _ _ => False) (ct := fun _ _ => False) (xs := [V.ref t1, .ref t2, .ref t3, .ref t4]) ?_
  generalize upd (upd (upd (upd (upd H t1 (.tup [V.int a, .int b, .int c, .int d])) t2 (.tup [V.int b, .int a, .int d, .int c])) t3 (.tup [V.int c, .int d, .int a, .int b])) t4 (.tup [V.int d, .int c, .int b, .int a])) t5 (.tup [V.ref t1, .ref t2, .ref t3, .ref t4]) = G at g1 g2 g3 g4 g5 sm ⊢
  have f : ∀ x : Bool, (!decide (x = x)) = false := fun x => by rw [decide_eq_true rfl]; rfl
  refine ⟨SqT.of g5, t1, _, rfl, SqT.of g1, rfl, ?_⟩
  walk_at "hr"
  refine use_is_by o hp fun G1 e1 => ?_
  walk_at "hr"
  refine HX.iteF_ (f _) ?_
  walk_at "hr"
  refine use_is_by o.mid hp fun G2 e2 => ?_
  walk_at "hr"
  rw [By_mid]
  refine HX.iteF_ (f _) ?_
  walk_at "hr"
  have s1 := e1.trans e2
  refine ⟨SqT.of (s1 _ _ g5), t2, _, rfl, SqT.of (s1 _ _ g2), rfl, ?_⟩
  walk_at "hr"
  refine use_is_by o.turn hp fun G3 e3 => ?_
  walk_at "hr"
  rw [By_turn]
  refine HX.iteF_ (f _) ?_
  walk_at "hr"
  refine use_is_by o.turn.mid hp fun G4 e4 => ?_
  walk_at "hr"
  rw [By_mid, By_turn]
  refine HX.iteF_ (f _) ?_
  walk_at "hr"
  have s2 := (s1.trans e3).trans e4
  refine ⟨SqT.of (s2 _ _ g5), t3, _, rfl, SqT.of (s2 _ _ g3), rfl, ?_⟩
  walk_at "hr"
  refine use_is_by o.swap hp fun G5 e5 => ?_
  walk_at "hr"
  rw [By_swap]
  refine HX.iteF_ (f _) ?_
  walk_at "hr"
  refine use_is_by o.swap.mid hp fun G6 e6 => ?_
  walk_at "hr"
  rw [By_mid, By_swap]
  refine HX.iteF_ (f _) ?_
  walk_at "hr"
  have s3 := (s2.trans e5).trans e6
  refine ⟨SqT.of (s3 _ _ g5), t4, _, rfl, SqT.of (s3 _ _ g4), rfl, ?_⟩
  walk_at "hr"
  refine use_is_by o.swap.turn hp fun G7 e7 => ?_
  walk_at "hr"
  rw [By_turn, By_swap]
  refine HX.iteF_ (f _) ?_
  walk_at "hr"
  refine use_is_by o.swap.turn.mid hp fun G8 e8 => ?_
  walk_at "hr"
  rw [By_mid, By_turn, By_swap]
  refine HX.iteF_ (f _) ?_
  walk_at "hr"
  have s4 := (s3.trans e7).trans e8
  refine ⟨SqT.of (s4 _ _ g5), ?_⟩
  walk_at "hr"
  exact q _ (sm.trans s4)
theorem use_turned {a b c d p : Int} {t : Bool} {H : Hp} {Q : VK} {E : XK} (ht : t = By a b c d p) (o : Ok4 a b c d) (hp : -80 ≤ p ∧ p ≤ 80) (q : ∀ H', Same H H' → Q (.bl true) H') : sp__law_turned_right K ([.int a, .int b, .int c, .int d, .int p, .bl t] ++ []) H Q E := by
  subst ht
  exact ⟨a, b, c, d, p, rfl, o, hp, q⟩
theorem By_one (a b c d : Int) : By a b c d 1 = decide (a + d - b - c = 0) := by
  unfold By
  rw [if_neg (by omega), S_one]
theorem By_zero (a b c d : Int) : By a b c d 0 = decide (a * d = b * c) := by
  unfold By
  rw [if_pos rfl]
theorem chain_zero {a b c d k : Int} (hk : 1 ≤ k) : By c d (a * k) (b * k) 0 = By a b c d 0 := by
  rw [By_zero, By_zero]
  refine decide_eq_decide.mpr ⟨fun h => ?_, fun h => ?_⟩
  · rw [← Int.mul_assoc, ← Int.mul_assoc] at h
    have e := Int.eq_of_mul_eq_mul_right (by omega : k ≠ 0) h
    rw [Int.mul_comm a d, Int.mul_comm b c]
    exact e.symm
  · rw [← Int.mul_assoc, ← Int.mul_assoc, Int.mul_comm c b, Int.mul_comm d a, h]
theorem maxle {e f : Int} (h : ¬ 1000000 < (if f > e then f else e)) : e ≤ 1000000 ∧ f ≤ 1000000 := by
  split at h <;> omega
def sp__law_chained_right (K : PySem.W.Frag) : Sp := fun vs H Q _ => ∃ (g : Addr) (a b c d : Int) (k : Addr) (ns : List Int) (n : Nat), vs = [.ref g, .int a, .int b, .int c, .int d] ∧ Ok4 a b c d ∧ Hat H g k ns n ∧ n ≤ 90000 ∧ ∀ H', Kept g H H' → Hat H' g k ns (n + 1) → Q (.bl true) H'
theorem ok__law_chained_right (T : Tx K mg) : FnOk P w K mg base CX0 7 T.f__law_chained_right T.fd__law_chained_right ["hat", "a", "b", "c", "d"] (sp__law_chained_right K) := by
  refine T.F__law_chained_right.ok sc__law_chained_right (fun vs H Q E h => ?_) (fun cdv A outer s H vs Q E hr h => ?_)
  · obtain ⟨g, a, b, c, d, k, ns, n, rfl, o, hh, hn, q⟩ := h; rfl
  obtain ⟨g, a, b, c, d, k, ns, n, rfl, o, hh, hn, q⟩ := h
  refine ⟨_, (pss_cons (ps_par3 (i := 5) (j := 6) (l := 7) (by rfl) sc__law_chained_right.nd rfl rfl rfl (by decide) (by decide) (by decide) rfl rfl rfl (pa_cons pe_int (pa_cons (pe_op (op_addK (K := K)) (pv 1) (pv 4)) (pa_cons (pe_op (op_addK (K := K)) (pv 2) (pv 4)) pa_nil))) (by rfl))
      (pss_cons (ps_if (pt_cmpR (op_eqK (K := K) hr.units) (pe_call (ok__law_lot T) (hr.mono (by decide)) (by rfl) T.g__law_lot T.F__law_lot.kp T.b__law_lot .nil pass0 (pa_cons (pv 0) (pa_cons pe_int pa_nil))) pe_int (nomark _)) (pss_one (ps_par3 (i := 5) (j := 6) (l := 7) (by rfl) sc__law_chained_right.nd rfl rfl rfl (by decide) (by decide) (by decide) rfl rfl rfl (pa_cons pe_int (pa_cons (pe_op op_mulU (pv 1) (pe_op (op_addK (K := K)) pe_int (pe_op op_fdivU (pv 3) pe_int))) (pa_cons (pe_op op_mulU (pv 2) (pe_op (op_addK (K := K)) pe_int (pe_op op_fdivU (pv 3) pe_int))) pa_nil))) (by rfl))) pss_nil)
      (pss_cons (ps_if (pt_cmpR op_gt (pe_callB (call_maxU (by rfl)) (by rfl) T.z_max (by decide +kernel) (pa_cons (pv 6) (pa_cons (pv 7) pa_nil))) pe_int (nomark _)) (pss_one (ps_ret pe_bl)) pss_nil)
      (pss_cons (ps_if (PW.pt (pw_or (pt_not (pt_val (pe_call (ok_is_by T) (hr.mono (by decide)) (by rfl) T.g_is_by T.F_is_by.kp T.b_is_by .nil pass0 (pa_cons (pv 1) (pa_cons (pv 2) (pa_cons (pv 6) (pa_cons (pv 7) (pa_cons (pv 5) pa_nil)))))))) (pw_or1 (pt_not (pt_val (pe_call (ok_is_by T) (hr.mono (by decide)) (by rfl) T.g_is_by T.F_is_by.kp T.b_is_by .nil pass0 (pa_cons (pv 6) (pa_cons (pv 7) (pa_cons (pv 1) (pa_cons (pv 2) (pa_cons (pv 5) pa_nil))))))))))) (pss_one (ps_ret pe_bl)) pss_nil)
      (pss_one (ps_ret (pe_cmpR (op_eqK (K := K) hr.units) (pe_call (ok_is_by T) (hr.mono (by decide)) (by rfl) T.g_is_by T.F_is_by.kp T.b_is_by .nil pass0 (pa_cons (pv 3) (pa_cons (pv 4) (pa_cons (pv 6) (pa_cons (pv 7) (pa_cons (pv 5) pa_nil)))))) (pe_call (ok_is_by T) (hr.mono (by decide)) (by rfl) T.g_is_by T.F_is_by.kp T.b_is_by .nil pass0 (pa_cons (pv 1) (pa_cons (pv 2) (pa_cons (pv 3) (pa_cons (pv 4) (pa_cons (pv 5) pa_nil)))))) (nomark _)))))))), ?_⟩
  refine HX.start_ (σ := [some (.ref g : V), some (.int a : V), some (.int b : V), some (.int c : V), some (.int d : V), none, none, none]) rfl ?_
  obtain ⟨ha, hb, hc, hd⟩ := id o
  walk_at "hr"
  intro w H1 b1 b1' k1 h1
  walk_at "hr"
  refine HX.ited_ (fun w0 => ?_) (fun w0 => ?_)
  · walk_at "hr"
    refine HX.ited_ (fun m => ?_) (fun m => ?_)
    · walk_at "hr"
      exact q _ k1 h1
    · have hk : 1 ≤ 1 + c / 7 := by omega
      have hx : 0 < a * (1 + c / 7) := Int.mul_pos (by omega) (by omega)
      have hy : 0 < b * (1 + c / 7) := Int.mul_pos (by omega) (by omega)
      have hm := maxle m
      generalize hkk : 1 + c / 7 = kk at hk hx hy hm ⊢
      have o2 : Ok4 a b (a * kk) (b * kk) := ⟨ha, hb, ⟨by omega, hm.1⟩, ⟨by omega, hm.2⟩⟩
      have t1 : By a b (a * kk) (b * kk) 0 = true := by
        rw [By_zero]; exact decide_eq_true (by ac_rfl)
      walk_at "hr"
      refine use_is_by o2 (by omega) fun H2 e2 => ?_
      walk_at "hr"
      rw [t1]
      walk_at "hr"
      refine use_is_by o2.swap (by omega) fun H3 e3 => ?_
      walk_at "hr"
      rw [By_swap, t1]
      walk_at "hr"
      refine use_is_by ⟨hc, hd, o2.c, o2.d⟩ (by omega) fun H4 e4 => ?_
      walk_at "hr"
      refine use_is_by o (by omega) fun H5 e5 => ?_
      walk_at "hr"
      rw [chain_zero hk, decide_eq_true rfl]
      have s := ((e2.trans e3).trans e4).trans e5
      exact q _ (k1.trans (HX.kept_same s)) (h1.same s)
  · walk_at "hr"
    refine HX.ited_ (fun m => ?_) (fun m => ?_)
    · walk_at "hr"
      exact q _ k1 h1
    · have hm := maxle m
      have o2 : Ok4 a b (a + d) (b + d) := ⟨ha, hb, ⟨by omega, hm.1⟩, ⟨by omega, hm.2⟩⟩
      have t1 : By a b (a + d) (b + d) 1 = true := by
        rw [By_one]; exact decide_eq_true (by omega)
      walk_at "hr"
      refine use_is_by o2 (by omega) fun H2 e2 => ?_
      walk_at "hr"
      rw [t1]
      walk_at "hr"
      refine use_is_by o2.swap (by omega) fun H3 e3 => ?_
      walk_at "hr"
      rw [By_swap, t1]
      walk_at "hr"
      refine use_is_by ⟨hc, hd, o2.c, o2.d⟩ (by omega) fun H4 e4 => ?_
      walk_at "hr"
      refine use_is_by o (by omega) fun H5 e5 => ?_
      walk_at "hr"
      rw [By_one, By_one, decide_eq_true (show decide (c + (b + d) - d - (a + d) = 0) = decide (a + d - b - c = 0) from decide_eq_decide.mpr ⟨fun h => by omega, fun h => by omega⟩)]
      have s := ((e2.trans e3).trans e4).trans e5
      exact q _ (k1.trans (HX.kept_same s)) (h1.same s)
theorem use__law_is_by {a b c d p : Int} {H : Hp} {Q : VK} {E : XK} (o : Ok4 a b c d) (hp : -80 ≤ p ∧ p ≤ 80) (q : ∀ H', Same H H' → Q (.bl (By a b c d p)) H') : sp__law_is_by K ([.int a, .int b, .int c, .int d, .int p] ++ []) H Q E := ⟨a, b, c, d, p, rfl, o, hp, q⟩
theorem use__law_sum {a b c d p : Int} {H : Hp} {Q : VK} {E : XK} (o : Ok4 a b c d) (hp : -80 ≤ p ∧ p ≤ 80) (q : ∀ H', Same H H' → Q (.int (S a b c d p)) H') : sp__law_sum K ([.int a, .int b, .int c, .int d, .int p] ++ []) H Q E := ⟨a, b, c, d, p, rfl, o, hp, q⟩
theorem use_sign_at {a b c d p : Int} {H : Hp} {Q : VK} {E : XK} (o : Ok4 a b c d) (hp : -80 ≤ p ∧ p ≤ 80) (q : ∀ H', Same H H' → Q (.int (sgn (S a b c d p))) H') : sp_sign_at K ([.int a, .int b, .int c, .int d, .int p] ++ []) H Q E := ⟨a, b, c, d, p, rfl, o, hp, q⟩
theorem use_chained {g k : Addr} {a b c d : Int} {ns : List Int} {n : Nat} {H : Hp} {Q : VK} {E : XK} (o : Ok4 a b c d) (hh : Hat H g k ns n) (hn : n ≤ 90000) (q : ∀ H', Kept g H H' → Hat H' g k ns (n + 1) → Q (.bl true) H') : sp__law_chained_right K ([.ref g, .int a, .int b, .int c, .int d] ++ []) H Q E := ⟨g, a, b, c, d, k, ns, n, rfl, o, hh, hn, q⟩
def sp_law (K : PySem.W.Frag) : Sp := fun vs H Q _ => ∃ (a : Addr) (ns : List Int), vs = [.ref a] ∧ SqL K H a (ns.map V.int) ∧ ns.length ≤ 63 ∧ ∀ H', Q (.bl true) H'
theorem ok_law (T : Tx K mg) : FnOk P w K mg base CX0 8 T.f_law T.fd_law ["script"] (sp_law K) := by
  refine T.F_law.ok sc_law (fun vs H Q E h => ?_) (fun cdv A outer s H vs Q E hr h => ?_)
  · obtain ⟨s0, ns0, rfl, hS, hl, q⟩ := h; rfl
  obtain ⟨s0, ns0, rfl, hS, hl, q⟩ := h
  refine ⟨_, (pss_cons (ps_set (i := 1) sc_law.nd rfl (by first | exact .inl rfl | exact .inr rfl) (pe_call (ok__law_hat T) (hr.mono (by decide)) (by rfl) T.g__law_hat T.F__law_hat.kp T.b__law_hat .nil pass0 (pa_cons (pv 0) pa_nil)))
      (pss_cons (ps_for PassesOwn.never (by rfl) (pi_range1 (by rfl) T.z_range (pa_cons pe_int pa_nil)) (pg_name (i := 2) sc_law.nd rfl (by first | exact .inl rfl | exact .inr rfl)) (pss_cons (ps_asg (pe_call (ok__law_four T) (hr.mono (by decide)) (by rfl) T.g__law_four T.F__law_four.kp T.b__law_four .nil pass0 (pa_cons (pv 1) pa_nil)) (pg_unlK (K := K) 4 (by rfl) (pgs_cons (pg_name (i := 3) sc_law.nd rfl (by first | exact .inl rfl | exact .inr rfl)) (pgs_cons (pg_name (i := 4) sc_law.nd rfl (by first | exact .inl rfl | exact .inr rfl)) (pgs_cons (pg_name (i := 5) sc_law.nd rfl (by first | exact .inl rfl | exact .inr rfl)) (pgs_cons (pg_name (i := 6) sc_law.nd rfl (by first | exact .inl rfl | exact .inr rfl)) pgs_nil))))))
      (pss_cons (ps_set (i := 7) sc_law.nd rfl (by first | exact .inl rfl | exact .inr rfl) (pe_ifExp (pt_cmpR (op_eqK (K := K) hr.units) (pe_call (ok__law_lot T) (hr.mono (by decide)) (by rfl) T.g__law_lot T.F__law_lot.kp T.b__law_lot .nil pass0 (pa_cons (pv 1) (pa_cons pe_int pa_nil))) pe_int (nomark _)) pe_int pe_int))
      (pss_cons (ps_for PassesOwn.never (by rfl) (pi_tupK (K := K) (pe_tup (pa_cons pe_int (pa_cons pe_int (pa_cons pe_int (pa_cons (pe_un un_neg pe_int) (pa_cons (pe_op op_sub (pe_call (ok__law_lot T) (hr.mono (by decide)) (by rfl) T.g__law_lot T.F__law_lot.kp T.b__law_lot .nil pass0 (pa_cons (pv 1) (pa_cons (pe_op (op_addK (K := K)) (pe_op op_mulU pe_int (pv 7)) pe_int) pa_nil))) (pv 7)) pa_nil))))))) (pg_name (i := 8) sc_law.nd rfl (by first | exact .inl rfl | exact .inr rfl)) (pss_cons (ps_set (i := 9) sc_law.nd rfl (by first | exact .inl rfl | exact .inr rfl) (pe_call (ok__law_is_by T) (hr.mono (by decide)) (by rfl) T.g__law_is_by T.F__law_is_by.kp T.b__law_is_by .nil pass0 (pa_cons (pv 3) (pa_cons (pv 4) (pa_cons (pv 5) (pa_cons (pv 6) (pa_cons (pv 8) pa_nil)))))))
      (pss_cons (ps_set (i := 10) sc_law.nd rfl (by first | exact .inl rfl | exact .inr rfl) (pe_ifExp (pt_cmpR (op_eqK (K := K) hr.units) (pv 8) pe_int (nomark _)) pe_int (pe_call (ok__law_sign T) (hr.mono (by decide)) (by rfl) T.g__law_sign T.F__law_sign.kp T.b__law_sign .nil pass0 (pa_cons (pe_call (ok__law_sum T) (hr.mono (by decide)) (by rfl) T.g__law_sum T.F__law_sum.kp T.b__law_sum .nil pass0 (pa_cons (pv 3) (pa_cons (pv 4) (pa_cons (pv 5) (pa_cons (pv 6) (pa_cons (pv 8) pa_nil)))))) pa_nil))))
      (pss_cons (ps_set (i := 11) sc_law.nd rfl (by first | exact .inl rfl | exact .inr rfl) (pe_call (ok_is_by T) (hr.mono (by decide)) (by rfl) T.g_is_by T.F_is_by.kp T.b_is_by .nil pass0 (pa_cons (pv 3) (pa_cons (pv 4) (pa_cons (pv 5) (pa_cons (pv 6) (pa_cons (pv 8) pa_nil)))))))
      (pss_cons (ps_if (PW.pt (pw_or (pt_not (pt_val (pe_callB (call_isiK' (K := K)) (by rfl) T.z_isinstance (by decide +kernel) (pa_cons (pv 11) (pa_cons (pe_bltn (v := .ty "bool") (by rfl) T.z_bool (by decide +kernel) rfl) pa_nil))))) (pw_or (pt_cmpR (op_neK (K := K) hr.units) (pv 11) (pv 9) (nomark _)) (pw_or1 (pt_cmpR (op_neK (K := K) hr.units) (pe_call (ok_sign_at T) (hr.mono (by decide)) (by rfl) T.g_sign_at T.F_sign_at.kp T.b_sign_at .nil pass0 (pa_cons (pv 3) (pa_cons (pv 4) (pa_cons (pv 5) (pa_cons (pv 6) (pa_cons (pv 8) pa_nil)))))) (pv 10) (nomark _)))))) (pss_one (ps_ret pe_bl)) pss_nil)
      (pss_one (ps_if (pt_not (pt_val (pe_call (ok__law_turned_right T) (hr.mono (by decide)) (by rfl) T.g__law_turned_right T.F__law_turned_right.kp T.b__law_turned_right .nil pass0 (pa_cons (pv 3) (pa_cons (pv 4) (pa_cons (pv 5) (pa_cons (pv 6) (pa_cons (pv 8) (pa_cons (pv 9) pa_nil))))))))) (pss_one (ps_ret pe_bl)) pss_nil)))))))
      (pss_cons (ps_if (PW.pt (pw_or (pt_cmpR (op_neK (K := K) hr.units) (pe_call (ok_is_by T) (hr.mono (by decide)) (by rfl) T.g_is_by T.F_is_by.kp T.b_is_by .nil pass0 (pa_cons (pv 3) (pa_cons (pv 4) (pa_cons (pv 5) (pa_cons (pv 6) (pa_cons pe_int pa_nil)))))) (pe_cmpR (op_eqK (K := K) hr.units) (pe_op op_sub (pv 4) (pv 3)) (pe_op op_sub (pv 6) (pv 5)) (nomark _)) (nomark _)) (pw_or1 (pt_not (pt_val (pe_call (ok_is_by T) (hr.mono (by decide)) (by rfl) T.g_is_by T.F_is_by.kp T.b_is_by .nil pass0 (pa_cons (pv 3) (pa_cons (pv 4) (pa_cons (pv 3) (pa_cons (pv 4) (pa_cons (pe_op op_sub (pe_call (ok__law_lot T) (hr.mono (by decide)) (by rfl) T.g__law_lot T.F__law_lot.kp T.b__law_lot .nil pass0 (pa_cons (pv 1) (pa_cons pe_int pa_nil))) pe_int) pa_nil))))))))))) (pss_one (ps_ret pe_bl)) pss_nil)
      (pss_one (ps_if (pt_not (pt_val (pe_call (ok__law_chained_right T) (hr.mono (by decide)) (by rfl) T.g__law_chained_right T.F__law_chained_right.kp T.b__law_chained_right .nil pass0 (pa_cons (pv 1) (pa_cons (pv 3) (pa_cons (pv 4) (pa_cons (pv 5) (pa_cons (pv 6) pa_nil)))))))) (pss_one (ps_ret pe_bl)) pss_nil)))))))
      (pss_one (ps_ret pe_bl)))), ?_⟩
  refine HX.start_ (σ := [some (.ref s0 : V), none, none, none, none, none, none, none, none, none, none, none]) rfl ?_
  walk_at "hr"
  refine ⟨s0, ns0, rfl, hS, hl, fun g k ns H0 e0 hg hh0 => ?_⟩
  walk_at "hr"
  refine ⟨by omega, by omega, ?_⟩
  refine for_range (lo := 0) (n := 4) (fun i σ H' => Hat H' g k ns (100 * i) ∧ ∃ x2 x3 x4 x5 x6 x7 x8 x9 x10 x11, σ = [some (.ref s0), some (.ref g), x2, x3, x4, x5, x6, x7, x8, x9, x10, x11]) ⟨hh0, _, _, _, _, _, _, _, _, _, _, rfl⟩ ?_ ?_
  · rintro i σ H1 hi ⟨hh, x2, x3, x4, x5, x6, x7, x8, x9, x10, x11, rfl⟩
    walk_at "hr"
    intro p H2 a b c d k2 h2 hp hpg ba bb bc bd
    have o : Ok4 a b c d := ⟨ba, bb, bc, bd⟩
    refine ⟨p, _, rfl, SqL.of hp, rfl, ?_⟩
    walk_at "hr"
    intro w H3 b3 b3' k3 h3
    walk_at "hr"
    refine HX.joinC_ fun v hv => ?_
    obtain ⟨wide, rfl, hw⟩ : ∃ wide : Int, v = .int wide ∧ (wide = 80 ∨ wide = 9) := by
      rcases hv with rfl | rfl
      · exact ⟨_, rfl, .inl rfl⟩
      · exact ⟨_, rfl, .inr rfl⟩
    walk_at "hr"
    intro d5 H4 b4 b4' k4 h4
    walk_at "hr"
    intro t ht
    refine ⟨t, rfl, ⟨_, SqT.of upd_same⟩, ?_⟩
    have h5 := h4.new (o := .tup [V.int 1, V.int 0, V.int 2, V.int (-1), V.int (d5 - wide)]) ht
    have n5 : t ≠ g := h4.na ht
    refine for_tup (xs := [V.int 1, V.int 0, V.int 2, V.int (-1), V.int (d5 - wide)]) (fun j σ H' => Hat H' g k ns (100 * i + 30) ∧ SqT K H' t [V.int 1, V.int 0, V.int 2, V.int (-1), V.int (d5 - wide)] ∧ ∃ x8 x9 x10 x11, σ = [some (.ref s0), some (.ref g), some (.int (0 + (i : Int))), some (.int a), some (.int b), some (.int c), some (.int d), some (.int wide), x8, x9, x10, x11]) ⟨h5.mono (by omega), SqT.of upd_same, _, _, _, _, rfl⟩ ?_ ?_ ?_
    · rintro j σ H' _ ⟨_, h, _⟩
      exact h
    · rintro j v σ H5 hv ⟨hh5, hT, y8, y9, y10, y11, rfl⟩
      obtain ⟨pw, rfl, hpw⟩ : ∃ pw : Int, v = .int pw ∧ (-80 ≤ pw ∧ pw ≤ 80) := by
        match j, hv with
        | 0, hx => cases hx; exact ⟨_, rfl, by omega⟩
        | 1, hx => cases hx; exact ⟨_, rfl, by omega⟩
        | 2, hx => cases hx; exact ⟨_, rfl, by omega⟩
        | 3, hx => cases hx; exact ⟨_, rfl, by omega⟩
        | 4, hx => cases hx; exact ⟨_, rfl, by omega⟩
      walk_at "hr"
      refine use__law_is_by o hpw fun H6 e6 => ?_
      walk_at "hr"
      have f : ∀ x : Bool, (!decide (x = x)) = false := fun x => by rw [decide_eq_true rfl]; rfl
      have fi : ∀ x : Int, (!decide (x = x)) = false := fun x => by rw [decide_eq_true rfl]; rfl
      -- behind sign
      have rest : ∀ (sg : Int) (H7 : Hp), Same H5 H7 → sg = sgn (S a b c d pw) → True := fun _ _ _ _ => trivial
      by_cases hp0 : pw = 0
      · refine HX.iteT_ (decide_eq_true hp0) ?_
        walk_at "hr"
        refine use_is_by o hpw fun H7 e7 => ?_
        walk_at "hr"
        refine HX.iteF_ (f _) ?_
        walk_at "hr"
        refine use_sign_at o hpw fun H8 e8 => ?_
        walk_at "hr"
        rw [show sgn (S a b c d pw) = 0 by rw [hp0, S_zero]; rfl]
        refine HX.iteF_ (fi _) ?_
        walk_at "hr"
        refine use_turned rfl o hpw fun H9 e9 => ?_
        walk_at "hr"
        have s := ((e6.trans e7).trans e8).trans e9
        exact ⟨hh5.same s, HX.same_sqt s hT, _, _, _, _, rfl⟩
      · refine HX.iteF_ (decide_eq_false hp0) ?_
        walk_at "hr"
        refine use__law_sum o hpw fun H7 e7 => ?_
        walk_at "hr"
        refine use_is_by o hpw fun H8 e8 => ?_
        walk_at "hr"
        refine HX.iteF_ (f _) ?_
        walk_at "hr"
        refine use_sign_at o hpw fun H9 e9 => ?_
        walk_at "hr"
        refine HX.iteF_ (fi _) ?_
        walk_at "hr"
        refine use_turned rfl o hpw fun H10 e10 => ?_
        walk_at "hr"
        have s := (((e6.trans e7).trans e8).trans e9).trans e10
        exact ⟨hh5.same s, HX.same_sqt s hT, _, _, _, _, rfl⟩
    · rintro σ H5 ⟨hh5, hT, y8, y9, y10, y11, rfl⟩
      walk_at "hr"
      refine use_is_by o (by omega) fun H6 e6 => ?_
      walk_at "hr"
      have hb : By a b c d 1 = decide (b - a = d - c) := by
        rw [By_one]
        exact decide_eq_decide.mpr ⟨fun h => by omega, fun h => by omega⟩
      rw [hb]
      refine HX.iteF_ (by rw [decide_eq_true rfl]; rfl) ?_
      walk_at "hr"
      have h6 := hh5.same e6
      walk_at "hr"
      intro z H7 bz bz' k7 h7
      walk_at "hr"
      refine use_is_by ⟨ba, bb, ba, bb⟩ (by omega) fun H8 e8 => ?_
      walk_at "hr"
      rw [By_same]
      walk_at "hr"
      have h8 := h7.same e8
      refine use_chained o h8 (by omega) fun H9 k9 h9 => ?_
      walk_at "hr"
      exact ⟨h9.mono (by omega), _, _, _, _, _, _, _, _, _, _, rfl⟩
  · rintro σ H1 ⟨hh, x2, x3, x4, x5, x6, x7, x8, x9, x10, x11, rfl⟩
    walk_at "hr"
    exact q _
end
theorem all_mk {l : PySem.W.OpenLaw} {w : World} {K : PySem.W.Frag} {h : Heap} {mg : Str → Option Value} {fa : Addr} (X : K.In h) (G : h.Ns mainGlobals mg) (hfa : mg "law" = some (.ref fa))
    {od0 an0 : Option Addr} {sl0 : Array (Option Value)} {oc0 kV0 dc0 pm0 cd0 ct0 : Value} {f0 : Addr}
    {od1 an1 : Option Addr} {sl1 : Array (Option Value)} {oc1 kV1 dc1 pm1 cd1 ct1 : Value} {f1 : Addr}
    {od2 an2 : Option Addr} {sl2 : Array (Option Value)} {oc2 kV2 dc2 pm2 cd2 ct2 : Value} {f2 : Addr}
    {od3 an3 : Option Addr} {sl3 : Array (Option Value)} {oc3 kV3 dc3 pm3 cd3 ct3 : Value} {f3 : Addr}
    {od4 an4 : Option Addr} {sl4 : Array (Option Value)} {oc4 kV4 dc4 pm4 cd4 ct4 : Value} {f4 : Addr}
    {od5 an5 : Option Addr} {sl5 : Array (Option Value)} {oc5 kV5 dc5 pm5 cd5 ct5 : Value} {f5 : Addr}
    {od6 an6 : Option Addr} {sl6 : Array (Option Value)} {oc6 kV6 dc6 pm6 cd6 ct6 : Value} {f6 : Addr}
    {od7 an7 : Option Addr} {sl7 : Array (Option Value)} {oc7 kV7 dc7 pm7 cd7 ct7 : Value} {f7 : Addr}
    {od8 an8 : Option Addr} {sl8 : Array (Option Value)} {oc8 kV8 dc8 pm8 cd8 ct8 : Value} {f8 : Addr}
    {od9 an9 : Option Addr} {sl9 : Array (Option Value)} {oc9 kV9 dc9 pm9 cd9 ct9 : Value} {f9 : Addr}
    {od10 an10 : Option Addr} {sl10 : Array (Option Value)} {oc10 kV10 dc10 pm10 cd10 ct10 : Value} {f10 : Addr}
    {od11 an11 : Option Addr} {sl11 : Array (Option Value)} {oc11 kV11 dc11 pm11 cd11 ct11 : Value} {f11 : Addr}
    {od12 an12 : Option Addr} {sl12 : Array (Option Value)} {oc12 kV12 dc12 pm12 cd12 ct12 : Value} {f12 : Addr}
    {od13 an13 : Option Addr} {sl13 : Array (Option Value)} {oc13 kV13 dc13 pm13 cd13 ct13 : Value} {f13 : Addr}
    {od14 an14 : Option Addr} {sl14 : Array (Option Value)} {oc14 kV14 dc14 pm14 cd14 ct14 : Value} {f14 : Addr}
    {od15 an15 : Option Addr} {sl15 : Array (Option Value)} {oc15 kV15 dc15 pm15 cd15 ct15 : Value} {f15 : Addr}
    {od16 an16 : Option Addr} {sl16 : Array (Option Value)} {oc16 kV16 dc16 pm16 cd16 ct16 : Value} {f16 : Addr}
    {od17 an17 : Option Addr} {sl17 : Array (Option Value)} {oc17 kV17 dc17 pm17 cd17 ct17 : Value} {f17 : Addr}
    {od18 an18 : Option Addr} {sl18 : Array (Option Value)} {oc18 kV18 dc18 pm18 cd18 ct18 : Value} {f18 : Addr}
    {od19 an19 : Option Addr} {sl19 : Array (Option Value)} {oc19 kV19 dc19 pm19 cd19 ct19 : Value} {f19 : Addr}
    {od20 an20 : Option Addr} {sl20 : Array (Option Value)} {oc20 kV20 dc20 pm20 cd20 ct20 : Value} {f20 : Addr}
    {od21 an21 : Option Addr} {sl21 : Array (Option Value)} {oc21 kV21 dc21 pm21 cd21 ct21 : Value} {f21 : Addr}
    {od22 an22 : Option Addr} {sl22 : Array (Option Value)} {oc22 kV22 dc22 pm22 cd22 ct22 : Value} {f22 : Addr}
    {od23 an23 : Option Addr} {sl23 : Array (Option Value)} {oc23 kV23 dc23 pm23 cd23 ct23 : Value} {f23 : Addr}
    (a0 : PySem.W.nsIn K mainGlobals "is_integer" = some (some (.ref f0)))
    (l0 : K.lookup f0 = some ⟨oc0, od0, .func (PySem.W.fnOf "is_integer" "is_integer" (defArgs s_is_integer) (defBody s_is_integer) (defScope s_is_integer) .none kV0 dc0 pm0 an0 cd0 ct0), sl0⟩)
    (c0 : PySem.W.codeIn K cd0 "is_integer" = true) (k0 : PySem.W.keepIn K (.ref f0) = true)
    (a1 : PySem.W.nsIn K mainGlobals "is_within" = some (some (.ref f1)))
    (l1 : K.lookup f1 = some ⟨oc1, od1, .func (PySem.W.fnOf "is_within" "is_within" (defArgs s_is_within) (defBody s_is_within) (defScope s_is_within) .none kV1 dc1 pm1 an1 cd1 ct1), sl1⟩)
    (c1 : PySem.W.codeIn K cd1 "is_within" = true) (k1 : PySem.W.keepIn K (.ref f1) = true)
    (a2 : PySem.W.nsIn K mainGlobals "need_number" = some (some (.ref f2)))
    (l2 : K.lookup f2 = some ⟨oc2, od2, .func (PySem.W.fnOf "need_number" "need_number" (defArgs s_need_number) (defBody s_need_number) (defScope s_need_number) .none kV2 dc2 pm2 an2 cd2 ct2), sl2⟩)
    (c2 : PySem.W.codeIn K cd2 "need_number" = true) (k2 : PySem.W.keepIn K (.ref f2) = true)
    (a3 : PySem.W.nsIn K mainGlobals "need_power" = some (some (.ref f3)))
    (l3 : K.lookup f3 = some ⟨oc3, od3, .func (PySem.W.fnOf "need_power" "need_power" (defArgs s_need_power) (defBody s_need_power) (defScope s_need_power) .none kV3 dc3 pm3 an3 cd3 ct3), sl3⟩)
    (c3 : PySem.W.codeIn K cd3 "need_power" = true) (k3 : PySem.W.keepIn K (.ref f3) = true)
    (a4 : PySem.W.nsIn K mainGlobals "raised" = some (some (.ref f4)))
    (l4 : K.lookup f4 = some ⟨oc4, od4, .func (PySem.W.fnOf "raised" "raised" (defArgs s_raised) (defBody s_raised) (defScope s_raised) .none kV4 dc4 pm4 an4 cd4 ct4), sl4⟩)
    (c4 : PySem.W.codeIn K cd4 "raised" = true) (k4 : PySem.W.keepIn K (.ref f4) = true)
    (a5 : PySem.W.nsIn K mainGlobals "lifted" = some (some (.ref f5)))
    (l5 : K.lookup f5 = some ⟨oc5, od5, .func (PySem.W.fnOf "lifted" "lifted" (defArgs s_lifted) (defBody s_lifted) (defScope s_lifted) .none kV5 dc5 pm5 an5 cd5 ct5), sl5⟩)
    (c5 : PySem.W.codeIn K cd5 "lifted" = true) (k5 : PySem.W.keepIn K (.ref f5) = true)
    (a6 : PySem.W.nsIn K mainGlobals "sum_at" = some (some (.ref f6)))
    (l6 : K.lookup f6 = some ⟨oc6, od6, .func (PySem.W.fnOf "sum_at" "sum_at" (defArgs s_sum_at) (defBody s_sum_at) (defScope s_sum_at) .none kV6 dc6 pm6 an6 cd6 ct6), sl6⟩)
    (c6 : PySem.W.codeIn K cd6 "sum_at" = true) (k6 : PySem.W.keepIn K (.ref f6) = true)
    (a7 : PySem.W.nsIn K mainGlobals "need_four" = some (some (.ref f7)))
    (l7 : K.lookup f7 = some ⟨oc7, od7, .func (PySem.W.fnOf "need_four" "need_four" (defArgs s_need_four) (defBody s_need_four) (defScope s_need_four) .none kV7 dc7 pm7 an7 cd7 ct7), sl7⟩)
    (c7 : PySem.W.codeIn K cd7 "need_four" = true) (k7 : PySem.W.keepIn K (.ref f7) = true)
    (a8 : PySem.W.nsIn K mainGlobals "sign_at" = some (some (.ref f8)))
    (l8 : K.lookup f8 = some ⟨oc8, od8, .func (PySem.W.fnOf "sign_at" "sign_at" (defArgs s_sign_at) (defBody s_sign_at) (defScope s_sign_at) .none kV8 dc8 pm8 an8 cd8 ct8), sl8⟩)
    (c8 : PySem.W.codeIn K cd8 "sign_at" = true) (k8 : PySem.W.keepIn K (.ref f8) = true)
    (a9 : PySem.W.nsIn K mainGlobals "holds_by" = some (some (.ref f9)))
    (l9 : K.lookup f9 = some ⟨oc9, od9, .func (PySem.W.fnOf "holds_by" "holds_by" (defArgs s_holds_by) (defBody s_holds_by) (defScope s_holds_by) .none kV9 dc9 pm9 an9 cd9 ct9), sl9⟩)
    (c9 : PySem.W.codeIn K cd9 "holds_by" = true) (k9 : PySem.W.keepIn K (.ref f9) = true)
    (a10 : PySem.W.nsIn K mainGlobals "is_by" = some (some (.ref f10)))
    (l10 : K.lookup f10 = some ⟨oc10, od10, .func (PySem.W.fnOf "is_by" "is_by" (defArgs s_is_by) (defBody s_is_by) (defScope s_is_by) .none kV10 dc10 pm10 an10 cd10 ct10), sl10⟩)
    (c10 : PySem.W.codeIn K cd10 "is_by" = true) (k10 : PySem.W.keepIn K (.ref f10) = true)
    (a11 : PySem.W.nsIn K mainGlobals "_law_hat" = some (some (.ref f11)))
    (l11 : K.lookup f11 = some ⟨oc11, od11, .func (PySem.W.fnOf "_law_hat" "_law_hat" (defArgs s__law_hat) (defBody s__law_hat) (defScope s__law_hat) .none kV11 dc11 pm11 an11 cd11 ct11), sl11⟩)
    (c11 : PySem.W.codeIn K cd11 "_law_hat" = true) (k11 : PySem.W.keepIn K (.ref f11) = true)
    (a12 : PySem.W.nsIn K mainGlobals "_law_lot" = some (some (.ref f12)))
    (l12 : K.lookup f12 = some ⟨oc12, od12, .func (PySem.W.fnOf "_law_lot" "_law_lot" (defArgs s__law_lot) (defBody s__law_lot) (defScope s__law_lot) .none kV12 dc12 pm12 an12 cd12 ct12), sl12⟩)
    (c12 : PySem.W.codeIn K cd12 "_law_lot" = true) (k12 : PySem.W.keepIn K (.ref f12) = true)
    (a13 : PySem.W.nsIn K mainGlobals "_law_one" = some (some (.ref f13)))
    (l13 : K.lookup f13 = some ⟨oc13, od13, .func (PySem.W.fnOf "_law_one" "_law_one" (defArgs s__law_one) (defBody s__law_one) (defScope s__law_one) .none kV13 dc13 pm13 an13 cd13 ct13), sl13⟩)
    (c13 : PySem.W.codeIn K cd13 "_law_one" = true) (k13 : PySem.W.keepIn K (.ref f13) = true)
    (a14 : PySem.W.nsIn K mainGlobals "_law_raised" = some (some (.ref f14)))
    (l14 : K.lookup f14 = some ⟨oc14, od14, .func (PySem.W.fnOf "_law_raised" "_law_raised" (defArgs s__law_raised) (defBody s__law_raised) (defScope s__law_raised) .none kV14 dc14 pm14 an14 cd14 ct14), sl14⟩)
    (c14 : PySem.W.codeIn K cd14 "_law_raised" = true) (k14 : PySem.W.keepIn K (.ref f14) = true)
    (a15 : PySem.W.nsIn K mainGlobals "_law_sum" = some (some (.ref f15)))
    (l15 : K.lookup f15 = some ⟨oc15, od15, .func (PySem.W.fnOf "_law_sum" "_law_sum" (defArgs s__law_sum) (defBody s__law_sum) (defScope s__law_sum) .none kV15 dc15 pm15 an15 cd15 ct15), sl15⟩)
    (c15 : PySem.W.codeIn K cd15 "_law_sum" = true) (k15 : PySem.W.keepIn K (.ref f15) = true)
    (a16 : PySem.W.nsIn K mainGlobals "_law_sign" = some (some (.ref f16)))
    (l16 : K.lookup f16 = some ⟨oc16, od16, .func (PySem.W.fnOf "_law_sign" "_law_sign" (defArgs s__law_sign) (defBody s__law_sign) (defScope s__law_sign) .none kV16 dc16 pm16 an16 cd16 ct16), sl16⟩)
    (c16 : PySem.W.codeIn K cd16 "_law_sign" = true) (k16 : PySem.W.keepIn K (.ref f16) = true)
    (a17 : PySem.W.nsIn K mainGlobals "_law_is_by" = some (some (.ref f17)))
    (l17 : K.lookup f17 = some ⟨oc17, od17, .func (PySem.W.fnOf "_law_is_by" "_law_is_by" (defArgs s__law_is_by) (defBody s__law_is_by) (defScope s__law_is_by) .none kV17 dc17 pm17 an17 cd17 ct17), sl17⟩)
    (c17 : PySem.W.codeIn K cd17 "_law_is_by" = true) (k17 : PySem.W.keepIn K (.ref f17) = true)
    (a18 : PySem.W.nsIn K mainGlobals "_law_steps" = some (some (.ref f18)))
    (l18 : K.lookup f18 = some ⟨oc18, od18, .func (PySem.W.fnOf "_law_steps" "_law_steps" (defArgs s__law_steps) (defBody s__law_steps) (defScope s__law_steps) .none kV18 dc18 pm18 an18 cd18 ct18), sl18⟩)
    (c18 : PySem.W.codeIn K cd18 "_law_steps" = true) (k18 : PySem.W.keepIn K (.ref f18) = true)
    (a19 : PySem.W.nsIn K mainGlobals "_law_squares" = some (some (.ref f19)))
    (l19 : K.lookup f19 = some ⟨oc19, od19, .func (PySem.W.fnOf "_law_squares" "_law_squares" (defArgs s__law_squares) (defBody s__law_squares) (defScope s__law_squares) .none kV19 dc19 pm19 an19 cd19 ct19), sl19⟩)
    (c19 : PySem.W.codeIn K cd19 "_law_squares" = true) (k19 : PySem.W.keepIn K (.ref f19) = true)
    (a20 : PySem.W.nsIn K mainGlobals "_law_four" = some (some (.ref f20)))
    (l20 : K.lookup f20 = some ⟨oc20, od20, .func (PySem.W.fnOf "_law_four" "_law_four" (defArgs s__law_four) (defBody s__law_four) (defScope s__law_four) .none kV20 dc20 pm20 an20 cd20 ct20), sl20⟩)
    (c20 : PySem.W.codeIn K cd20 "_law_four" = true) (k20 : PySem.W.keepIn K (.ref f20) = true)
    (a21 : PySem.W.nsIn K mainGlobals "_law_turned_right" = some (some (.ref f21)))
    (l21 : K.lookup f21 = some ⟨oc21, od21, .func (PySem.W.fnOf "_law_turned_right" "_law_turned_right" (defArgs s__law_turned_right) (defBody s__law_turned_right) (defScope s__law_turned_right) .none kV21 dc21 pm21 an21 cd21 ct21), sl21⟩)
    (c21 : PySem.W.codeIn K cd21 "_law_turned_right" = true) (k21 : PySem.W.keepIn K (.ref f21) = true)
    (a22 : PySem.W.nsIn K mainGlobals "_law_chained_right" = some (some (.ref f22)))
    (l22 : K.lookup f22 = some ⟨oc22, od22, .func (PySem.W.fnOf "_law_chained_right" "_law_chained_right" (defArgs s__law_chained_right) (defBody s__law_chained_right) (defScope s__law_chained_right) .none kV22 dc22 pm22 an22 cd22 ct22), sl22⟩)
    (c22 : PySem.W.codeIn K cd22 "_law_chained_right" = true) (k22 : PySem.W.keepIn K (.ref f22) = true)
    (a23 : PySem.W.nsIn K mainGlobals "law" = some (some (.ref f23)))
    (l23 : K.lookup f23 = some ⟨oc23, od23, .func (PySem.W.fnOf "law" "law" (defArgs s_law) (defBody s_law) (defScope s_law) .none kV23 dc23 pm23 an23 cd23 ct23), sl23⟩)
    (c23 : PySem.W.codeIn K cd23 "law" = true) (k23 : PySem.W.keepIn K (.ref f23) = true)
    (z_abs : PySem.W.nsIn K mainGlobals "abs" = some none)
    (z_bool : PySem.W.nsIn K mainGlobals "bool" = some none)
    (z_int : PySem.W.nsIn K mainGlobals "int" = some none)
    (z_isinstance : PySem.W.nsIn K mainGlobals "isinstance" = some none)
    (z_len : PySem.W.nsIn K mainGlobals "len" = some none)
    (z_max : PySem.W.nsIn K mainGlobals "max" = some none)
    (z_range : PySem.W.nsIn K mainGlobals "range" = some none)
    {t_MOST_POWER : Tok} (c_MOST_POWER : PySem.W.nsIn K mainGlobals "MOST_POWER" = some (some (.int 80 t_MOST_POWER)))
    {t_MOST_NUMBER : Tok} (c_MOST_NUMBER : PySem.W.nsIn K mainGlobals "MOST_NUMBER" = some (some (.int 1000000 t_MOST_NUMBER))) :
    ∃ fd : FuncData, (∀ (s : Shared) (v : Value), BindsTo s fd ⟨[v], []⟩ [("script", v)]) ∧ ∀ base : Heap, K.In base → base.Ns mainGlobals mg → FnOk l.prog w K mg base CX0 8 fa fd ["script"] (sp_law K) := by
  have e := hfa.symm.trans (PySem.W.mg_of X G a23)
  cases e
  have F0 := fun_mk (st := s_is_integer) l0 c0 k0
  have b0 := F0.binds (ps := ["value"]) fun _ _ _ _ _ _ us hl => match us, hl with | [_], _ => rfl
  have F1 := fun_mk (st := s_is_within) l1 c1 k1
  have b1 := F1.binds (ps := ["value", "least", "most"]) fun _ _ _ _ _ _ us hl => match us, hl with | [_, _, _], _ => rfl
  have F2 := fun_mk (st := s_need_number) l2 c2 k2
  have b2 := F2.binds (ps := ["value", "part", "least", "most"]) fun _ _ _ _ _ _ us hl => match us, hl with | [_, _, _, _], _ => rfl
  have F3 := fun_mk (st := s_need_power) l3 c3 k3
  have b3 := F3.binds (ps := ["power"]) fun _ _ _ _ _ _ us hl => match us, hl with | [_], _ => rfl
  have F4 := fun_mk (st := s_raised) l4 c4 k4
  have b4 := F4.binds (ps := ["number", "many"]) fun _ _ _ _ _ _ us hl => match us, hl with | [_, _], _ => rfl
  have F5 := fun_mk (st := s_lifted) l5 c5 k5
  have b5 := F5.binds (ps := ["a", "b", "c", "d", "power"]) fun _ _ _ _ _ _ us hl => match us, hl with | [_, _, _, _, _], _ => rfl
  have F6 := fun_mk (st := s_sum_at) l6 c6 k6
  have b6 := F6.binds (ps := ["a", "b", "c", "d", "power"]) fun _ _ _ _ _ _ us hl => match us, hl with | [_, _, _, _, _], _ => rfl
  have F7 := fun_mk (st := s_need_four) l7 c7 k7
  have b7 := F7.binds (ps := ["a", "b", "c", "d", "power"]) fun _ _ _ _ _ _ us hl => match us, hl with | [_, _, _, _, _], _ => rfl
  have F8 := fun_mk (st := s_sign_at) l8 c8 k8
  have b8 := F8.binds (ps := ["a", "b", "c", "d", "power"]) fun _ _ _ _ _ _ us hl => match us, hl with | [_, _, _, _, _], _ => rfl
  have F9 := fun_mk (st := s_holds_by) l9 c9 k9
  have b9 := F9.binds (ps := ["a", "b", "c", "d", "power"]) fun _ _ _ _ _ _ us hl => match us, hl with | [_, _, _, _, _], _ => rfl
  have F10 := fun_mk (st := s_is_by) l10 c10 k10
  have b10 := F10.binds (ps := ["a", "b", "c", "d", "power"]) fun _ _ _ _ _ _ us hl => match us, hl with | [_, _, _, _, _], _ => rfl
  have F11 := fun_mk (st := s__law_hat) l11 c11 k11
  have b11 := F11.binds (ps := ["script"]) fun _ _ _ _ _ _ us hl => match us, hl with | [_], _ => rfl
  have F12 := fun_mk (st := s__law_lot) l12 c12 k12
  have b12 := F12.binds (ps := ["hat", "many"]) fun _ _ _ _ _ _ us hl => match us, hl with | [_, _], _ => rfl
  have F13 := fun_mk (st := s__law_one) l13 c13 k13
  have b13 := F13.binds (ps := ["hat", "some"]) fun _ _ _ _ _ _ us hl => match us, hl with | [_, _], _ => rfl
  have F14 := fun_mk (st := s__law_raised) l14 c14 k14
  have b14 := F14.binds (ps := ["number", "many"]) fun _ _ _ _ _ _ us hl => match us, hl with | [_, _], _ => rfl
  have F15 := fun_mk (st := s__law_sum) l15 c15 k15
  have b15 := F15.binds (ps := ["a", "b", "c", "d", "power"]) fun _ _ _ _ _ _ us hl => match us, hl with | [_, _, _, _, _], _ => rfl
  have F16 := fun_mk (st := s__law_sign) l16 c16 k16
  have b16 := F16.binds (ps := ["number"]) fun _ _ _ _ _ _ us hl => match us, hl with | [_], _ => rfl
  have F17 := fun_mk (st := s__law_is_by) l17 c17 k17
  have b17 := F17.binds (ps := ["a", "b", "c", "d", "power"]) fun _ _ _ _ _ _ us hl => match us, hl with | [_, _, _, _, _], _ => rfl
  have F18 := fun_mk (st := s__law_steps) l18 c18 k18
  have b18 := F18.binds (ps := ["hat", "most"]) fun _ _ _ _ _ _ us hl => match us, hl with | [_, _], _ => rfl
  have F19 := fun_mk (st := s__law_squares) l19 c19 k19
  have b19 := F19.binds (ps := ["hat"]) fun _ _ _ _ _ _ us hl => match us, hl with | [_], _ => rfl
  have F20 := fun_mk (st := s__law_four) l20 c20 k20
  have b20 := F20.binds (ps := ["hat"]) fun _ _ _ _ _ _ us hl => match us, hl with | [_], _ => rfl
  have F21 := fun_mk (st := s__law_turned_right) l21 c21 k21
  have b21 := F21.binds (ps := ["a", "b", "c", "d", "power", "told"]) fun _ _ _ _ _ _ us hl => match us, hl with | [_, _, _, _, _, _], _ => rfl
  have F22 := fun_mk (st := s__law_chained_right) l22 c22 k22
  have b22 := F22.binds (ps := ["hat", "a", "b", "c", "d"]) fun _ _ _ _ _ _ us hl => match us, hl with | [_, _, _, _, _], _ => rfl
  have F23 := fun_mk (st := s_law) l23 c23 k23
  have b23 := F23.binds (ps := ["script"]) fun _ _ _ _ _ _ us hl => match us, hl with | [_], _ => rfl
  let T : Tx K mg := {
    f_is_integer := _
    fd_is_integer := _
    F_is_integer := F0
    g_is_integer := PySem.W.mg_of X G a0
    b_is_integer := b0
    f_is_within := _
    fd_is_within := _
    F_is_within := F1
    g_is_within := PySem.W.mg_of X G a1
    b_is_within := b1
    f_need_number := _
    fd_need_number := _
    F_need_number := F2
    g_need_number := PySem.W.mg_of X G a2
    b_need_number := b2
    f_need_power := _
    fd_need_power := _
    F_need_power := F3
    g_need_power := PySem.W.mg_of X G a3
    b_need_power := b3
    f_raised := _
    fd_raised := _
    F_raised := F4
    g_raised := PySem.W.mg_of X G a4
    b_raised := b4
    f_lifted := _
    fd_lifted := _
    F_lifted := F5
    g_lifted := PySem.W.mg_of X G a5
    b_lifted := b5
    f_sum_at := _
    fd_sum_at := _
    F_sum_at := F6
    g_sum_at := PySem.W.mg_of X G a6
    b_sum_at := b6
    f_need_four := _
    fd_need_four := _
    F_need_four := F7
    g_need_four := PySem.W.mg_of X G a7
    b_need_four := b7
    f_sign_at := _
    fd_sign_at := _
    F_sign_at := F8
    g_sign_at := PySem.W.mg_of X G a8
    b_sign_at := b8
    f_holds_by := _
    fd_holds_by := _
    F_holds_by := F9
    g_holds_by := PySem.W.mg_of X G a9
    b_holds_by := b9
    f_is_by := _
    fd_is_by := _
    F_is_by := F10
    g_is_by := PySem.W.mg_of X G a10
    b_is_by := b10
    f__law_hat := _
    fd__law_hat := _
    F__law_hat := F11
    g__law_hat := PySem.W.mg_of X G a11
    b__law_hat := b11
    f__law_lot := _
    fd__law_lot := _
    F__law_lot := F12
    g__law_lot := PySem.W.mg_of X G a12
    b__law_lot := b12
    f__law_one := _
    fd__law_one := _
    F__law_one := F13
    g__law_one := PySem.W.mg_of X G a13
    b__law_one := b13
    f__law_raised := _
    fd__law_raised := _
    F__law_raised := F14
    g__law_raised := PySem.W.mg_of X G a14
    b__law_raised := b14
    f__law_sum := _
    fd__law_sum := _
    F__law_sum := F15
    g__law_sum := PySem.W.mg_of X G a15
    b__law_sum := b15
    f__law_sign := _
    fd__law_sign := _
    F__law_sign := F16
    g__law_sign := PySem.W.mg_of X G a16
    b__law_sign := b16
    f__law_is_by := _
    fd__law_is_by := _
    F__law_is_by := F17
    g__law_is_by := PySem.W.mg_of X G a17
    b__law_is_by := b17
    f__law_steps := _
    fd__law_steps := _
    F__law_steps := F18
    g__law_steps := PySem.W.mg_of X G a18
    b__law_steps := b18
    f__law_squares := _
    fd__law_squares := _
    F__law_squares := F19
    g__law_squares := PySem.W.mg_of X G a19
    b__law_squares := b19
    f__law_four := _
    fd__law_four := _
    F__law_four := F20
    g__law_four := PySem.W.mg_of X G a20
    b__law_four := b20
    f__law_turned_right := _
    fd__law_turned_right := _
    F__law_turned_right := F21
    g__law_turned_right := PySem.W.mg_of X G a21
    b__law_turned_right := b21
    f__law_chained_right := _
    fd__law_chained_right := _
    F__law_chained_right := F22
    g__law_chained_right := PySem.W.mg_of X G a22
    b__law_chained_right := b22
    f_law := _
    fd_law := _
    F_law := F23
    g_law := PySem.W.mg_of X G a23
    b_law := b23
    z_abs := PySem.W.mg_none_of X G z_abs
    z_bool := PySem.W.mg_none_of X G z_bool
    z_int := PySem.W.mg_none_of X G z_int
    z_isinstance := PySem.W.mg_none_of X G z_isinstance
    z_len := PySem.W.mg_none_of X G z_len
    z_max := PySem.W.mg_none_of X G z_max
    z_range := PySem.W.mg_none_of X G z_range
    t_MOST_POWER := _
    c_MOST_POWER := PySem.W.mg_of X G c_MOST_POWER
    t_MOST_NUMBER := _
    c_MOST_NUMBER := PySem.W.mg_of X G c_MOST_NUMBER }
  exact ⟨PySem.W.fnOf "law" "law" (defArgs s_law) (defBody s_law) (defScope s_law) .none kV23 dc23 pm23 an23 cd23 ct23, fun s v => .of_eq rfl, fun base _ _ => ok_law T⟩
end K18
open PySem PySem.W PyProof.Rows
set_option maxHeartbeats 0 in
theorem PySem.Challenge.cw_fourthlike_k18_numbers_by_steps_and_by_t_holds : PySem.Challenge.rw_fourthlike_k18_numbers_by_steps_and_by_t.Holds := by
  w_on; o_law; k_head; (case hw => w_witness2)
  k_fill
  refine L2.walk_of (l := PySem.Challenge.rw_fourthlike_k18_numbers_by_steps_and_by_t) (n := 63) (k := 8) (x := "script") (CX := fun _ => L2.CX0) (sp := fun w => K18.sp_law _) rfl (by decide) rfl ⟨rfl, by decide, by decide⟩ (fun w h Y => PySem.W.kIn_of Y) ?F (fun _ _ a ns hl _ hS => ⟨a, ns, rfl, hS, hl, fun _ => rfl⟩) (fun _ _ _ _ _ h => h)
  case F =>
    intro w mg fa h KX G hmg
    refine' K18.all_mk KX G hmg ?a0 ?l0 ?c0 ?k0 ?a1 ?l1 ?c1 ?k1 ?a2 ?l2 ?c2 ?k2 ?a3 ?l3 ?c3 ?k3 ?a4 ?l4 ?c4 ?k4 ?a5 ?l5 ?c5 ?k5 ?a6 ?l6 ?c6 ?k6 ?a7 ?l7 ?c7 ?k7 ?a8 ?l8 ?c8 ?k8 ?a9 ?l9 ?c9 ?k9 ?a10 ?l10 ?c10 ?k10 ?a11 ?l11 ?c11 ?k11 ?a12 ?l12 ?c12 ?k12 ?a13 ?l13 ?c13 ?k13 ?a14 ?l14 ?c14 ?k14 ?a15 ?l15 ?c15 ?k15 ?a16 ?l16 ?c16 ?k16 ?a17 ?l17 ?c17 ?k17 ?a18 ?l18 ?c18 ?k18 ?a19 ?l19 ?c19 ?k19 ?a20 ?l20 ?c20 ?k20 ?a21 ?l21 ?c21 ?k21 ?a22 ?l22 ?c22 ?k22 ?a23 ?l23 ?c23 ?k23 ?z_abs ?z_bool ?z_int ?z_isinstance ?z_len ?z_max ?z_range ?c_MOST_POWER ?c_MOST_NUMBER
    (case a0 => k_is)
    (case l0 => k_is)
    (case c0 => k_is)
    (case k0 => k_is)
    (case a1 => k_is)
    (case l1 => k_is)
    (case c1 => k_is)
    (case k1 => k_is)
    (case a2 => k_is)
    (case l2 => k_is)
    (case c2 => k_is)
    (case k2 => k_is)
    (case a3 => k_is)
    (case l3 => k_is)
    (case c3 => k_is)
    (case k3 => k_is)
    (case a4 => k_is)
    (case l4 => k_is)
    (case c4 => k_is)
    (case k4 => k_is)
    (case a5 => k_is)
    (case l5 => k_is)
    (case c5 => k_is)
    (case k5 => k_is)
    (case a6 => k_is)
    (case l6 => k_is)
    (case c6 => k_is)
    (case k6 => k_is)
    (case a7 => k_is)
    (case l7 => k_is)
    (case c7 => k_is)
    (case k7 => k_is)
    (case a8 => k_is)
    (case l8 => k_is)
    (case c8 => k_is)
    (case k8 => k_is)
    (case a9 => k_is)
    (case l9 => k_is)
    (case c9 => k_is)
    (case k9 => k_is)
    (case a10 => k_is)
    (case l10 => k_is)
    (case c10 => k_is)
    (case k10 => k_is)
    (case a11 => k_is)
    (case l11 => k_is)
    (case c11 => k_is)
    (case k11 => k_is)
    (case a12 => k_is)
    (case l12 => k_is)
    (case c12 => k_is)
    (case k12 => k_is)
    (case a13 => k_is)
    (case l13 => k_is)
    (case c13 => k_is)
    (case k13 => k_is)
    (case a14 => k_is)
    (case l14 => k_is)
    (case c14 => k_is)
    (case k14 => k_is)
    (case a15 => k_is)
    (case l15 => k_is)
    (case c15 => k_is)
    (case k15 => k_is)
    (case a16 => k_is)
    (case l16 => k_is)
    (case c16 => k_is)
    (case k16 => k_is)
    (case a17 => k_is)
    (case l17 => k_is)
    (case c17 => k_is)
    (case k17 => k_is)
    (case a18 => k_is)
    (case l18 => k_is)
    (case c18 => k_is)
    (case k18 => k_is)
    (case a19 => k_is)
    (case l19 => k_is)
    (case c19 => k_is)
    (case k19 => k_is)
    (case a20 => k_is)
    (case l20 => k_is)
    (case c20 => k_is)
    (case k20 => k_is)
    (case a21 => k_is)
    (case l21 => k_is)
    (case c21 => k_is)
    (case k21 => k_is)
    (case a22 => k_is)
    (case l22 => k_is)
    (case c22 => k_is)
    (case k22 => k_is)
    (case a23 => k_is)
    (case l23 => k_is)
    (case c23 => k_is)
    (case k23 => k_is)
    (case z_abs => k_is)
    (case z_bool => k_is)
    (case z_int => k_is)
    (case z_isinstance => k_is)
    (case z_len => k_is)
    (case z_max => k_is)
    (case z_range => k_is)
    (case c_MOST_POWER => k_is)
    (case c_MOST_NUMBER => k_is)
