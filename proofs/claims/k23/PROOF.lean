import PyProof.Rows.All
import Wide.All
import OpenK.AllK
import Wide.FinOn
import HandS.ForMost
import HandS.Wide
import HandS.Style
import HandS.NoneIn
import HandS.IsInst
import HandS.Evl
import HandS.TupAny
import KE.RegKIsAll
import KE.RegKSuper
import KE.KSuper
import HandS.ClsMeth
import HandS.Nested
import HandS.Star
import KE.KTypeName
import HandS.OwnEq
import HandS.SetFor
import HandS.Records
import HandS.RaiseMore
import PyProof.Rows.Range3
import HandS.Strs
import HandS.Zip
import HandS.Deep
import PyProof.ReprRoads
import HandS.Ends
import PySem.Challenge.RW_fourthlike_k23_rows_of_numbers_by_one_po
set_option Elab.async false
set_option linter.all false
set_option maxRecDepth 100000
set_option maxHeartbeats 4000000
/-! step lemmas: each opens one word of a reading -/
namespace HX
open PySem PySem.Spec PyProof.Rows L2

/-! ### rules for any kind of values -/
def CMulU (i j : Int) : Prop := IntMulOk i j
theorem CMulU.l {i j : Int} (h : -(2 ^ 64) < i ∧ i < 2 ^ 64) : CMulU i j := L2.CMul.ok (.inl h)
theorem CMulU.r {i j : Int} (h : -(2 ^ 64) < j ∧ j < 2 ^ 64) : CMulU i j := L2.CMul.ok (.inr h)
theorem CMulU.w {i j : Int} (h : i.natAbs.log2 + j.natAbs.log2 < 1000000) : CMulU i j := L2.CMulW.ok h
section
variable {X : Cx}
theorem op_mulU : OpR X (binaryOp .Mult) (rI CMulU fun i j => .int (i * j)) := opI fun _ _ _ _ _ _ _ hc q => mul_int q hc
abbrev op_fdivU : OpR X (binaryOp .FloorDiv) (rI CDiv fun i j => .int (i / j)) := op_fdiv
def rMod : R2 := rI (fun _ j => 0 < j) fun i j => .int (i % j)
theorem op_modU : OpR X (binaryOp .Mod) rMod := op_mod
def rAddS : R2 := fun x y H Q => ∃ i j, x = .str i ∧ y = .str j ∧ i.length + j.length ≤ sizeLine ∧ Q (.str (i ++ j)) H
def rAddU (K : PySem.W.Frag) : R2 := fun x y H Q => rI0 (fun i j => .int (i + j)) x y H Q ∨ rAddS x y H Q ∨ rCat x y H Q ∨ rCatA K x y H Q
theorem op_addU : OpR X (binaryOp .Add) (rAddU X.K) := op_add.or (OpR.or (r := rAddS) op_add_str (op_cat.or op_catA))
def rEqU (K : PySem.W.Frag) : R2 := fun x y H Q => rEq x y H Q ∨ rEqD K x y H Q
def rNeU (K : PySem.W.Frag) : R2 := fun x y H Q => rNe x y H Q ∨ rNeD K x y H Q
theorem op_eqU (hu : X.A.units + 64 < cLine) : OpR X (compareOp .Eq) (rEqU X.K) := op_eq.or (op_eqD hu)
theorem op_neU (hu : X.A.units + 64 < cLine) : OpR X (compareOp .NotEq) (rNeU X.K) := op_ne.or (op_neD hu)
def rLenS (K : PySem.W.Frag) : List V → Hp → VK → Prop := fun xs H Q => ∃ p ys, xs = [.ref p] ∧ (SqL K H p ys ∨ SqT K H p ys) ∧ Q (.int ys.length) H
def rLenT : List V → Hp → VK → Prop := fun xs H Q => ∃ z, xs = [.str z] ∧ z.length ≤ sizeLine ∧ Q (.int z.length) H
def rLenU (K : PySem.W.Frag) : List V → Hp → VK → Prop := fun xs H Q => rLenS K xs H Q ∨ rLenT xs H Q
theorem call_lenU : CallR X (.builtin "len") (rLenU X.K) := CallR.or (r := rLenS X.K) call_len_seq (r' := rLenT) call_len_str
def rSlU (K : PySem.W.Frag) : V → Option Int → Option Int → Hp → VK → Prop := fun x lo hi H Q => rSlL K x lo hi H Q ∨ rSlA K x lo hi H Q ∨ rSlS x lo hi H Q
theorem sl_U : SlR X (rSlU X.K) := sl_list.or (sl_tupA.or sl_str)
def rInSg : R2 := fun x y H Q => ∃ (c : Nat) (z : Str), x = .str ⟨#[c]⟩ ∧ y = .str z ∧ Q (.bl (decide (c ∈ z.cps.toList))) H
def rNiSg : R2 := fun x y H Q => ∃ (c : Nat) (z : Str), x = .str ⟨#[c]⟩ ∧ y = .str z ∧ Q (.bl (!decide (c ∈ z.cps.toList))) H
def rInU (K : PySem.W.Frag) : R2 := fun x y H Q => rIn K false x y H Q ∨ rInSg x y H Q
def rNiU (K : PySem.W.Frag) : R2 := fun x y H Q => rIn K true x y H Q ∨ rNiSg x y H Q
theorem op_inU : OpR X (compareOp .In) (rInU X.K) := OpR.or op_in_seq (r' := rInSg) op_in_sign
theorem op_notInU : OpR X (compareOp .NotIn) (rNiU X.K) := OpR.or op_notIn_seq (r' := rNiSg) op_notIn_sign
end

/-! ### the same, the written part named (a comprehension's block has the same) -/
section
variable {X : Cx} {K : PySem.W.Frag}
theorem op_addK (hK : X.K = K := by rfl) : OpR X (binaryOp .Add) (rAddU K) := by cases hK; exact op_addU
theorem op_eqK (hu : X.A.units + 64 < cLine) (hK : X.K = K := by rfl) : OpR X (compareOp .Eq) (rEqU K) := by cases hK; exact op_eqU hu
theorem op_neK (hu : X.A.units + 64 < cLine) (hK : X.K = K := by rfl) : OpR X (compareOp .NotEq) (rNeU K) := by cases hK; exact op_neU hu
theorem call_lenK (hK : X.K = K := by rfl) : CallR X (.builtin "len") (rLenU K) := by cases hK; exact call_lenU
theorem sl_K (hK : X.K = K := by rfl) : SlR X (rSlU K) := by cases hK; exact sl_U
theorem op_inK (hK : X.K = K := by rfl) : OpR X (compareOp .In) (rInU K) := by cases hK; exact op_inU
theorem op_notInK (hK : X.K = K := by rfl) : OpR X (compareOp .NotIn) (rNiU K) := by cases hK; exact op_notInU
theorem ix_K (hK : X.K = K := by rfl) : IxR X (rIx K) := by cases hK; exact ix_seq
theorem call_isiK' (hK : X.K = K := by rfl) : CallR X (.builtin "isinstance") (rIsi K) := by cases hK; exact call_isi
def rListOf (K : PySem.W.Frag) : List V → Hp → VK → Prop := fun xs H Q => ∃ p ys, xs = [.ref p] ∧ (SqL K H p ys ∨ SqT K H p ys) ∧ ∀ l, H l = none → Q (.ref l) (upd H l (.lst ys))
theorem call_listK (hK : X.K = K := by rfl) : CallR X (.type "list") (rListOf K) := by cases hK; exact call_list_of
def rTupleOf (K : PySem.W.Frag) : List V → Hp → VK → Prop := fun xs H Q => ∃ p ys, xs = [.ref p] ∧ ((SqL K H p ys ∧ ∀ l, H l = none → Q (.ref l) (upd H l (.tup ys))) ∨ (SqT K H p ys ∧ Q (.ref p) H))
theorem call_tupleK (hK : X.K = K := by rfl) : CallR X (.type "tuple") (rTupleOf K) := by cases hK; exact call_tuple_of
theorem cr_sumK (hc : X.calm = true) (hK : X.K = K := by rfl) : CallR X (.builtin "sum") (rSum K) := by cases hK; exact cr_sum hc
theorem cr_maxK (hc : X.calm = true) (hK : X.K = K := by rfl) : CallR X (.builtin "max") (rMax K) := by cases hK; exact cr_max hc
theorem cr_minK' (hc : X.calm = true) (hK : X.K = K := by rfl) : CallR X (.builtin "min") (rMin K) := by cases hK; exact cr_min hc
theorem cr_anyK (hc : X.calm = true) (hK : X.K = K := by rfl) : CallR X (.builtin "any") (rAny K) := by cases hK; exact cr_any hc
theorem cr_allK (hc : X.calm = true) (hK : X.K = K := by rfl) : CallR X (.builtin "all") (rAll K) := by cases hK; exact cr_all hc
theorem pi_listK {tg l : Expr} {tl : TE} (hl : PE X l tl) (hK : X.K = K := by rfl) : PI X tg l (iList K tl) := by cases hK; exact pi_list hl
theorem pi_tupK {tg l : Expr} {tl : TE} (hl : PE X l tl) (hK : X.K = K := by rfl) : PI X tg l (iTup K tl) := by cases hK; exact pi_tup hl
theorem pg_tupK {es : List Expr} {k : Nat} {pos : Pos} {t : TGs} (n : Nat) (hc : X.calm = true) (h : PGs X es t)
    (hn : (assignEach es X.env).length = n := by rfl) (hst : (assignEach es X.env).findIdx? (·.1) = none := by rfl) (hK : X.K = K := by rfl) : PG X (.Tuple es k pos) (gTup K n t) := by cases hK; exact pg_tup hc h hn hst
theorem pg_unlK {es : List Expr} {k : Nat} {pos : Pos} {t : TGs} (n : Nat) (hc : X.calm = true) (h : PGs X es t)
    (hn : (assignEach es X.env).length = n := by rfl) (hst : (assignEach es X.env).findIdx? (·.1) = none := by rfl) (hK : X.K = K := by rfl) : PG X (.Tuple es k pos) (gUnl K n t) := by cases hK; exact pg_unl hc h hn hst
end

theorem start_ {t : TS} {D : Ends} {N : List Str} {vs : List V} {σ : L2.St} {H : Hp} (e : start N vs = σ) (h : t D σ H) : t D (start N vs) H := by rw [e]; exact h
/-! ### statements -/
section
variable {σ : L2.St} {H : Hp} {nx bk ct : L2.St → Hp → Prop} {rt : VK} {t u : TS} {te : TE} {g : TG} {c : TT}
theorem seq_ (h : t ⟨u ⟨nx, rt, bk, ct⟩, rt, bk, ct⟩ σ H) : tSeq t u ⟨nx, rt, bk, ct⟩ σ H := h
theorem next_ (h : nx σ H) : tNext ⟨nx, rt, bk, ct⟩ σ H := h
theorem brk_ (h : bk σ H) : tBreak ⟨nx, rt, bk, ct⟩ σ H := h
theorem cont_ (h : ct σ H) : tCont ⟨nx, rt, bk, ct⟩ σ H := h
theorem asg_ (h : te σ H fun x H1 => g x σ H1 nx) : tAsg te g ⟨nx, rt, bk, ct⟩ σ H := h
theorem drop_ (h : te σ H fun _ H1 => nx σ H1) : tDrop te ⟨nx, rt, bk, ct⟩ σ H := h
theorem ret_ (h : te σ H rt) : tRet te ⟨nx, rt, bk, ct⟩ σ H := h
theorem retN_ (h : rt .non H) : tRetN ⟨nx, rt, bk, ct⟩ σ H := h
theorem ifS_ (h : c σ H fun b H1 => if b = true then t ⟨nx, rt, bk, ct⟩ σ H1 else u ⟨nx, rt, bk, ct⟩ σ H1) : tIfS c t u ⟨nx, rt, bk, ct⟩ σ H := h
theorem par_ {i j : Nat} {ta : TA} (h : ta σ H fun vs H1 => ∃ v w, vs = [v, w] ∧ gName i v σ H1 fun σ H => gName j w σ H nx) : tPar i j ta ⟨nx, rt, bk, ct⟩ σ H := h
theorem par3_ {i j l : Nat} {ta : TA} (h : ta σ H fun vs H1 => ∃ u v w, vs = [u, v, w] ∧ gName i u σ H1 fun σ H => gName j v σ H fun σ H => gName l w σ H nx) : tPar3 i j l ta ⟨nx, rt, bk, ct⟩ σ H := h
theorem e2_ {v w : V} {P : V → V → Prop} (h : P v w) : ∃ a b, [v, w] = [a, b] ∧ P a b := ⟨v, w, rfl, h⟩
theorem e3_ {v w z : V} {P : V → V → V → Prop} (h : P v w z) : ∃ a b c, [v, w, z] = [a, b, c] ∧ P a b c := ⟨v, w, z, rfl, h⟩
end
theorem cut_ {σ : L2.St} {H : Hp} {nx bk ct : L2.St → Hp → Prop} {rt : VK} {t u : TS} (Mid : L2.St → Hp → Prop) (h : t ⟨Mid, rt, bk, ct⟩ σ H) (h2 : ∀ σ' H', Mid σ' H' → u ⟨nx, rt, bk, ct⟩ σ' H') : Evl.tCut t u ⟨nx, rt, bk, ct⟩ σ H := ⟨Mid, h, h2⟩
/-! ### targets -/
section
variable {σ : L2.St} {H : Hp} {R : L2.St → Hp → Prop} {v : V} {i : Nat} {a : Option V} {t : TG} {ts : TGs}
theorem gn0_ (h : R (some v :: σ) H) : gName 0 v (a :: σ) H R := h
theorem gnS_ (h : gName i v σ H fun σ' H' => R (a :: σ') H') : gName (i + 1) v (a :: σ) H R := h
theorem gcons_ {vs : List V} (h : t v σ H fun σ' H' => ts vs σ' H' R) : gCons t ts (v :: vs) σ H R := ⟨v, vs, rfl, h⟩
theorem gnil_ (h : R σ H) : gNil [] σ H R := ⟨rfl, h⟩
theorem gtup_ {K : PySem.W.Frag} {n : Nat} {p : Addr} {xs : List V} (hT : SqT K H p xs) (hn : xs.length = n) (h : ts xs σ H R) : gTup K n ts (.ref p) σ H R := ⟨p, xs, rfl, hT, hn, h⟩
theorem gunl_ {K : PySem.W.Frag} {n : Nat} {p : Addr} {xs : List V} (hT : SqL K H p xs) (hn : xs.length = n) (h : ts xs σ H R) : gUnl K n ts (.ref p) σ H R := ⟨p, xs, rfl, hT, hn, h⟩
theorem gsub_ {to ti : TE} {s : TSet} (h : to σ H fun o H1 => ti σ H1 fun i H2 => s o i v H2 fun H3 => R σ H3) : gSub to ti s v σ H R := h
theorem setL_ {p : Addr} {xs : List V} {k : Int} {j : Nat} {P : Hp → Prop} (hp : H p = some (.lst xs)) (hj : ixN xs.length k = some j) (h : P (upd H p (.lst (xs.set j v)))) : rSetL (.ref p) (.int k) v H P := ⟨p, xs, k, j, rfl, rfl, hp, hj, h⟩
end
/-! ### expressions -/
section
variable {σ : L2.St} {H : Hp} {Q : VK} {QA : List V → Hp → Prop} {QB : Bool → Hp → Prop} {v x y : V} {i : Nat} {a : Option V} {ta tb te : TE} {tr : TA} {t u : TT} {r : R2} {K : PySem.W.Frag}
theorem var0_ (h : Q v H) : tVar 0 (some v :: σ) H Q := ⟨v, rfl, h⟩
theorem varS_ (h : tVar i σ H Q) : tVar (i + 1) (a :: σ) H Q := h
theorem c_ (h : Q v H) : tC v σ H Q := h
theorem op_ (h : ta σ H fun x H1 => tb σ H1 fun y H2 => r x y H2 Q) : tOp r ta tb σ H Q := h
theorem un_ {f : V → Hp → VK → Prop} (h : ta σ H fun x H1 => f x H1 Q) : tUn f ta σ H Q := h
theorem nil_ (h : QA [] H) : tNil σ H QA := h
theorem cons_ (h : ta σ H fun x H1 => tr σ H1 fun xs H2 => QA (x :: xs) H2) : tCons ta tr σ H QA := h
theorem tup_ (h : tr σ H fun xs H1 => xs.length ≤ sizeLine ∧ ∀ p, H1 p = none → Q (.ref p) (upd H1 p (.tup xs))) : tTup tr σ H Q := h
theorem lst_ (h : tr σ H fun xs H1 => xs.length ≤ sizeLine ∧ ∀ p, H1 p = none → Q (.ref p) (upd H1 p (.lst xs))) : tLst tr σ H Q := h
theorem call_ {sp : Sp} {dvs : List V} {E : XK} (h : tr σ H fun vs H1 => sp (vs ++ dvs) H1 Q E) : tCall sp dvs E tr σ H Q := h
theorem cb_ {f : List V → Hp → VK → Prop} (h : tr σ H fun vs H1 => f vs H1 Q) : tCB f tr σ H Q := h
theorem i0_ {g : Int → Int → V} {i j : Int} (h : Q (g i j) H) : rI0 g (.int i) (.int j) H Q := ⟨i, j, rfl, rfl, h⟩
theorem i_ {C : Int → Int → Prop} {g : Int → Int → V} {i j : Int} (hc : C i j) (h : Q (g i j) H) : rI C g (.int i) (.int j) H Q := ⟨i, j, rfl, rfl, hc, h⟩
theorem u_ {g : Int → V} {i : Int} (h : Q (g i) H) : rU g (.int i) H Q := ⟨i, rfl, h⟩
/-- a remainder: a letter and what is known of it -/
theorem mod_ {i j : Int} (hj : 0 < j) (h : ∀ z, i % j = z → 0 ≤ z → z < j → Q (.int z) H) : rMod (.int i) (.int j) H Q := ⟨i, j, rfl, rfl, hj, h _ rfl (Int.emod_nonneg i (by omega)) (Int.emod_lt_of_pos i hj)⟩
theorem add_int_ {i j : Int} (h : Q (.int (i + j)) H) : rAddU K (.int i) (.int j) H Q := .inl ⟨i, j, rfl, rfl, h⟩
theorem add_str_ {i j : Str} (hl : i.length + j.length ≤ sizeLine) (h : Q (.str (i ++ j)) H) : rAddU K (.str i) (.str j) H Q := .inr (.inl ⟨i, j, rfl, rfl, hl, h⟩)
theorem add_lst_ {l b : Addr} {xs zs : List V} (hl : H l = some (.lst xs)) (hb : H b = some (.lst zs)) (hz : xs.length + zs.length ≤ sizeLine) (h : ∀ p, H p = none → Q (.ref p) (upd H p (.lst (xs ++ zs)))) : rAddU K (.ref l) (.ref b) H Q := .inr (.inr (.inl ⟨l, b, xs, zs, rfl, rfl, hl, hb, hz, h⟩))
theorem eq_int_ {i j : Int} (h : Q (.bl (decide (i = j))) H) : rEqU K (.int i) (.int j) H Q := .inl ⟨rfl, by
  have e : decide (V.int i = V.int j) = decide (i = j) := decide_eq_decide.mpr ⟨V.int.inj, congrArg V.int⟩
  rw [e]; exact h⟩
theorem ne_int_ {i j : Int} (h : Q (.bl (!decide (i = j))) H) : rNeU K (.int i) (.int j) H Q := .inl ⟨rfl, by
  have e : decide (V.int i = V.int j) = decide (i = j) := decide_eq_decide.mpr ⟨V.int.inj, congrArg V.int⟩
  rw [e]; exact h⟩
theorem eq_bl_ {i j : Bool} (h : Q (.bl (decide (i = j))) H) : rEqU K (.bl i) (.bl j) H Q := .inl ⟨rfl, by
  have e : decide (V.bl i = V.bl j) = decide (i = j) := decide_eq_decide.mpr ⟨V.bl.inj, congrArg V.bl⟩
  rw [e]; exact h⟩
theorem ne_bl_ {i j : Bool} (h : Q (.bl (!decide (i = j))) H) : rNeU K (.bl i) (.bl j) H Q := .inl ⟨rfl, by
  have e : decide (V.bl i = V.bl j) = decide (i = j) := decide_eq_decide.mpr ⟨V.bl.inj, congrArg V.bl⟩
  rw [e]; exact h⟩
theorem eq_str_ {i j : Str} (h : Q (.bl (decide (i = j))) H) : rEqU K (.str i) (.str j) H Q := .inl ⟨rfl, by
  have e : decide (V.str i = V.str j) = decide (i = j) := decide_eq_decide.mpr ⟨V.str.inj, congrArg V.str⟩
  rw [e]; exact h⟩
theorem ne_str_ {i j : Str} (h : Q (.bl (!decide (i = j))) H) : rNeU K (.str i) (.str j) H Q := .inl ⟨rfl, by
  have e : decide (V.str i = V.str j) = decide (i = j) := decide_eq_decide.mpr ⟨V.str.inj, congrArg V.str⟩
  rw [e]; exact h⟩
theorem len_l_ {p : Addr} {ys : List V} (hs : SqL K H p ys) (h : Q (.int ys.length) H) : rLenU K [.ref p] H Q := .inl ⟨p, ys, rfl, .inl hs, h⟩
theorem len_t_ {p : Addr} {ys : List V} (hs : SqT K H p ys) (h : Q (.int ys.length) H) : rLenU K [.ref p] H Q := .inl ⟨p, ys, rfl, .inr hs, h⟩
theorem len_s_ {z : Str} (hz : z.length ≤ sizeLine) (h : Q (.int z.length) H) : rLenU K [.str z] H Q := .inr ⟨z, rfl, hz, h⟩
theorem ixL_ {p : Addr} {xs : List V} {i : Int} (hs : SqL K H p xs) (hv : atI xs i = some v) (h : Q v H) : rIx K (.ref p) (.int i) H Q := .inl ⟨p, xs, i, v, rfl, rfl, hs, hv, h⟩
theorem ixT_ {p : Addr} {xs : List V} {i : Int} (hs : SqT K H p xs) (hv : atI xs i = some v) (h : Q v H) : rIx K (.ref p) (.int i) H Q := .inr (.inl ⟨p, xs, i, v, rfl, rfl, hs, hv, h⟩)
theorem slL_ {p : Addr} {xs : List V} {lo hi : Option Int} (hs : SqL K H p xs) (h : ∀ q, H q = none → Q (.ref q) (upd H q (.lst (cutV xs lo hi)))) : rSlU K (.ref p) lo hi H Q := .inl ⟨p, xs, rfl, hs, h⟩
theorem sl_ {f : V → Option Int → Option Int → Hp → VK → Prop} {tl th : TO} (h : te σ H fun x H1 => tl σ H1 fun l H2 => th σ H2 fun u H3 => f x l u H3 Q) : tSl f te tl th σ H Q := h
theorem nopart_ {QO : Option Int → Hp → Prop} (h : QO none H) : tNoPart σ H QO := h
theorem part_ {QO : Option Int → Hp → Prop} (h : te σ H fun x H1 => ∃ i, x = .int i ∧ QO (some i) H1) : tPart te σ H QO := h
theorem eint_ {i : Int} {P : Int → Prop} (h : P i) : ∃ j, V.int i = .int j ∧ P j := ⟨i, rfl, h⟩
theorem eref_ {i : Addr} {P : Addr → Prop} (h : P i) : ∃ j, V.ref i = .ref j ∧ P j := ⟨i, rfl, h⟩
theorem ebl_ {i : Bool} {P : Bool → Prop} (h : P i) : ∃ j, V.bl i = .bl j ∧ P j := ⟨i, rfl, h⟩
/-! tests -/
theorem test_ (h : te σ H fun x H' => ∃ k, x = .bl k ∧ QB k H') : tTest te σ H QB := h
theorem b_ (h : te σ H fun x H' => ∃ k, x = .bl k ∧ QB k H') : tB te σ H QB := h
theorem and_ (h : t σ H fun c H1 => if c = true then u σ H1 QB else QB false H1) : tAnd t u σ H QB := h
theorem or_ (h : t σ H fun c H1 => if c = true then QB true H1 else u σ H1 QB) : tOr t u σ H QB := h
theorem not_ (h : t σ H fun c H1 => QB (!c) H1) : tNot t σ H QB := h
theorem andV_ (h : ta σ H fun x H1 => ∃ c, x = .bl c ∧ if c = true then tb σ H1 Q else Q (.bl false) H1) : tAndV ta tb σ H Q := h
theorem orV_ (h : ta σ H fun x H1 => ∃ c, x = .bl c ∧ if c = true then Q (.bl true) H1 else tb σ H1 Q) : tOrV ta tb σ H Q := h
theorem notV_ (h : ta σ H fun x H1 => ∃ c, x = .bl c ∧ Q (.bl (!c)) H1) : tNotV ta σ H Q := h
theorem if_ (h : t σ H fun c H1 => if c = true then ta σ H1 Q else tb σ H1 Q) : tIf t ta tb σ H Q := h
theorem isN_ {x : V} (h : Q (.bl (decide (x = .non))) H) : (fun (x y : V) H (Q : VK) => y = .non ∧ Q (.bl (decide (x = .non))) H) x .non H Q := ⟨rfl, h⟩
theorem enon_ {P : Prop} (h : P) : V.non = .non ∧ P := ⟨rfl, h⟩
theorem yes_ {QT : Bool → Hp → Prop} (h : QT true H) : tYes σ H QT := h
/-! iterations -/
theorem itup_ {R : It → Hp → Prop} (h : te σ H fun x H1 => ∃ a, x = .ref a ∧ (∃ xs, SqT K H1 a xs) ∧ R (Itt K a) H1) : iTup K te σ H R := h
theorem ilst_ {R : It → Hp → Prop} (h : te σ H fun x H1 => ∃ a, x = .ref a ∧ (∃ xs, SqL K H1 a xs) ∧ R (Itl K a) H1) : iList K te σ H R := h
theorem irng1_ {R : It → Hp → Prop} (h : tr σ H fun vs H1 => ∃ j : Int, vs = [.int j] ∧ -(2 ^ 62) ≤ j ∧ j < 2 ^ 62 ∧ R (Itr 0 j.toNat) H1) : iRng1 tr σ H R := h
theorem irng2_ {R : It → Hp → Prop} (h : tr σ H fun vs H1 => ∃ i j : Int, vs = [.int i, .int j] ∧ (-(2 ^ 62) ≤ i ∧ i < 2 ^ 62 ∧ -(2 ^ 62) ≤ j ∧ j < 2 ^ 62) ∧ R (Itr i (j - i).toNat) H1) : iRng2 tr σ H R := h
theorem erng1_ {R : It → Hp → Prop} {i : Int} (hi : -(2 ^ 62) ≤ i ∧ i < 2 ^ 62) (h : R (Itr 0 i.toNat) H) : ∃ j : Int, [V.int i] = [.int j] ∧ -(2 ^ 62) ≤ j ∧ j < 2 ^ 62 ∧ R (Itr 0 j.toNat) H := ⟨i, rfl, hi.1, hi.2, h⟩
theorem etup_ {R : It → Hp → Prop} {p : Addr} {xs : List V} (hT : SqT K H p xs) (h : R (Itt K p) H) : ∃ a, V.ref p = .ref a ∧ (∃ xs, SqT K H a xs) ∧ R (Itt K a) H := ⟨p, rfl, ⟨xs, hT⟩, h⟩
theorem elst_ {R : It → Hp → Prop} {p : Addr} {xs : List V} (hT : SqL K H p xs) (h : R (Itl K p) H) : ∃ a, V.ref p = .ref a ∧ (∃ xs, SqL K H a xs) ∧ R (Itl K a) H := ⟨p, rfl, ⟨xs, hT⟩, h⟩
end
theorem iteT_ {b : Bool} {A B : Prop} (e : b = true) (h : A) : if b = true then A else B := by rw [if_pos e]; exact h
theorem iteF_ {b : Bool} {A B : Prop} (e : b = false) (h : B) : if b = true then A else B := by rw [e]; exact h
theorem ited_ {c A B : Prop} [Decidable c] (h1 : c → A) (h2 : ¬ c → B) : if decide c = true then A else B := by
  by_cases h : c
  · rw [if_pos (decide_eq_true h)]; exact h1 h
  · rw [if_neg (by rw [decide_eq_false h]; exact Bool.false_ne_true)]; exact h2 h
theorem itend_ {c A B : Prop} [Decidable c] (h1 : ¬ c → A) (h2 : c → B) : if (!decide c) = true then A else B := by
  by_cases h : c
  · rw [decide_eq_true h]; exact h2 h
  · rw [decide_eq_false h]; exact h1 h
theorem joinC_ {c : Bool} {x y : V} {σ : L2.St} {H : Hp} {Q : VK} (h : ∀ v, (v = x ∨ v = y) → Q v H) : if c = true then tC x σ H Q else tC y σ H Q := by
  cases c
  · exact h y (.inr rfl)
  · exact h x (.inl rfl)
theorem iteb_ {b : Bool} {A B : Prop} (h1 : b = true → A) (h2 : b = false → B) : if b = true then A else B := by
  cases b
  · exact h2 rfl
  · exact h1 rfl
theorem sz_ {n : Nat} {P : Prop} (h : Nat.ble n 1000 = true) (p : P) : n ≤ sizeLine ∧ P := ⟨Nat.le_of_lt (small1000 (Nat.le_of_ble_eq_true h)), p⟩
theorem size_ {n : Nat} (h : n ≤ 100000) : n ≤ sizeLine := Nat.le_trans h (by decide)
theorem isi_ {K : PySem.W.Frag} {x c : V} {t u : Value} {b : Bool} {H : Hp} {Q : VK} (k : ClsV c u) (ty : TyX K H x t) (e : PySem.W.kitOne K t u = some b) (q : Q (.bl b) H) : rIsi K [x, c] H Q := ⟨x, c, t, u, b, rfl, k, ty, e, q⟩

/-! ### a loop over a written tuple, turn by turn -/
def UnrT (K : PySem.W.Frag) (a : Addr) (all : List V) (g : TG) (tb : TS) (nx : L2.St → Hp → Prop) (rt : VK) : List V → L2.St → Hp → Prop
  | [], σ, H => SqT K H a all ∧ nx σ H
  | x :: xs, σ, H => SqT K H a all ∧ g x σ H fun σ2 H2 => tb ⟨UnrT K a all g tb nx rt xs, rt, nx, UnrT K a all g tb nx rt xs⟩ σ2 H2

theorem isi_int_int {K : PySem.W.Frag} {i : Int} {H : Hp} {Q : VK} (q : Q (.bl true) H) : rIsi K [.int i, .ty "int"] H Q := isi_ (.ty _) (.base (.int _)) (kit_ty (by decide +kernel)) q
theorem isi_int_bool {K : PySem.W.Frag} {i : Int} {H : Hp} {Q : VK} (q : Q (.bl false) H) : rIsi K [.int i, .ty "bool"] H Q := isi_ (.ty _) (.base (.int _)) (kit_ty (by decide +kernel)) q
theorem isi_bl_bool {K : PySem.W.Frag} {i : Bool} {H : Hp} {Q : VK} (q : Q (.bl true) H) : rIsi K [.bl i, .ty "bool"] H Q := isi_ (.ty _) (.base (.bl _)) (kit_ty (by decide +kernel)) q
theorem isi_bl_int {K : PySem.W.Frag} {i : Bool} {H : Hp} {Q : VK} (q : Q (.bl true) H) : rIsi K [.bl i, .ty "int"] H Q := isi_ (.ty _) (.base (.bl _)) (kit_ty (by decide +kernel)) q
def rInt1 : List V → Hp → VK → Prop := fun xs H Q => (∃ i, xs = [.int i] ∧ Q (.int i) H) ∨ ∃ k, xs = [.bl k] ∧ Q (.int (if k then 1 else 0)) H
theorem call_intU {X : Cx} : CallR X (.type "int") rInt1 := call_int1
theorem int_int_ {i : Int} {H : Hp} {Q : VK} (q : Q (.int i) H) : rInt1 [.int i] H Q := .inl ⟨i, rfl, q⟩
theorem int_bl_ {b : Bool} {H : Hp} {Q : VK} (q : Q (.int (if b then 1 else 0)) H) : rInt1 [.bl b] H Q := .inr ⟨b, rfl, q⟩
def rAbs : List V → Hp → VK → Prop := fun xs H Q => ∃ i, xs = [.int i] ∧ Q (.int (if i < 0 then -i else i)) H
theorem call_absU {X : Cx} : CallR X (.builtin "abs") rAbs := call_abs
theorem abs_ {i : Int} {H : Hp} {Q : VK} (q : Q (.int (if i < 0 then -i else i)) H) : rAbs [.int i] H Q := ⟨i, rfl, q⟩
def rMax2 : List V → Hp → VK → Prop := fun xs H Q => ∃ i j, xs = [.int i, .int j] ∧ Q (.int (if j > i then j else i)) H
theorem call_maxU {X : Cx} (hc : X.calm = true) : CallR X (.builtin "max") rMax2 := call_max2 hc
theorem max2_ {i j : Int} {H : Hp} {Q : VK} (q : Q (.int (if j > i then j else i)) H) : rMax2 [.int i, .int j] H Q := ⟨i, j, rfl, q⟩
def rMin2 : List V → Hp → VK → Prop := fun xs H Q => ∃ i j, xs = [.int i, .int j] ∧ Q (.int (if j < i then j else i)) H
theorem call_minU {X : Cx} (hc : X.calm = true) : CallR X (.builtin "min") rMin2 := call_min2 hc
theorem min2_ {i j : Int} {H : Hp} {Q : VK} (q : Q (.int (if j < i then j else i)) H) : rMin2 [.int i, .int j] H Q := ⟨i, j, rfl, q⟩
def rIsN : R2 := fun x y H Q => y = .non ∧ Q (.bl (decide (x = .non))) H
def rNotN : R2 := fun x y H Q => y = .non ∧ Q (.bl (!decide (x = .non))) H
theorem op_isNU {X : Cx} : OpR X (compareOp .Is) rIsN := op_isN
theorem op_notNU {X : Cx} : OpR X (compareOp .IsNot) rNotN := op_notN
theorem isN0_ {H : Hp} {Q : VK} (q : Q (.bl true) H) : rIsN .non .non H Q := ⟨rfl, q⟩
theorem isNi_ {i : Int} {H : Hp} {Q : VK} (q : Q (.bl false) H) : rIsN (.int i) .non H Q := ⟨rfl, q⟩
theorem isNr_ {i : Addr} {H : Hp} {Q : VK} (q : Q (.bl false) H) : rIsN (.ref i) .non H Q := ⟨rfl, q⟩
theorem isNs_ {i : Str} {H : Hp} {Q : VK} (q : Q (.bl false) H) : rIsN (.str i) .non H Q := ⟨rfl, q⟩
theorem notN0_ {H : Hp} {Q : VK} (q : Q (.bl false) H) : rNotN .non .non H Q := ⟨rfl, q⟩
theorem notNi_ {i : Int} {H : Hp} {Q : VK} (q : Q (.bl true) H) : rNotN (.int i) .non H Q := ⟨rfl, q⟩
theorem notNr_ {i : Addr} {H : Hp} {Q : VK} (q : Q (.bl true) H) : rNotN (.ref i) .non H Q := ⟨rfl, q⟩
theorem notNs_ {i : Str} {H : Hp} {Q : VK} (q : Q (.bl true) H) : rNotN (.str i) .non H Q := ⟨rfl, q⟩
theorem e1int_ {i : Int} {P : Int → Prop} (h : P i) : ∃ j, [V.int i] = [.int j] ∧ P j := ⟨i, rfl, h⟩
theorem e2int_ {i j : Int} {P : Int → Int → Prop} (h : P i j) : ∃ a b, [V.int i, V.int j] = [.int a, .int b] ∧ P a b := ⟨i, j, rfl, h⟩

/-! ### comprehensions over a name: P by the turn, what is made so far, the heap -/
section
variable {σ : L2.St} {H1 : Hp} {D : Addr} {Qd : Hp → Prop} {te : TE} {vs : List Nat} {j : Nat} {K : PySem.W.Frag}
/-- what a for's walk asks -/
def ForG (J : It) (g : TG) (tb : TS) (D : Ends) (σ : L2.St) (H1 : Hp) : Prop :=
  ∃ W : Nat → Nat → L2.St → Hp → Prop, (∃ m, W 0 m σ H1) ∧
    ∀ i m σ H, W i m σ H → (J.stop i H ∧ D.nx σ H) ∨
      (J.go i H ∧ ∃ N : L2.St → Hp → Prop, (∀ σ' H', N σ' H' → ∃ m', m' < m ∧ W (i + 1) m' σ' H') ∧
        ∀ x H', J.yld i H x H' → g x σ H' fun σ2 H2 => tb ⟨N, D.rt, D.nx, N⟩ σ2 H2)
theorem for_ {wi : TI} {g : TG} {tb : TS} {D : Ends} {H : Hp} (h : wi σ H fun J H1 => ForG J g tb D σ H1) : tFor wi g tb D σ H := h
/-- what a comprehension's walk asks: W by the turn and a measure -/
def LcG (J : It) (g : TG) (tt : TT) (te : TE) (vs : List Nat) (σ : L2.St) (D : Addr) (H1 : Hp) (Qd : Hp → Prop) : Prop :=
  ∃ W : Nat → Nat → Hp → Prop, (∃ m, W 0 m (upd H1 D (.lst []))) ∧
    ∀ i m H, W i m H → (J.stop i H ∧ Qd H) ∨
      (J.go i H ∧ ∃ Nx : Hp → Prop, (∀ H', Nx H' → ∃ m', m' < m ∧ W (i + 1) m' H') ∧
        ∀ x H', J.yld i H x H' → g x (wipe σ vs) H' fun σ2 H2 =>
          wipe σ2 vs = wipe σ vs ∧ tt σ2 H2 fun b H3 => if b = true
            then te σ2 H3 fun y H4 => ∃ acc, H4 D = some (.lst acc) ∧
              acc.length < sizeLine ∧ Nx (upd H4 D (.lst (acc ++ [y])))
            else Nx H3)
theorem lc_ {wi : TI} {g : TG} {tt : TT} {Q : VK} {H : Hp} (h : wi σ H fun J H1 => ∀ D, H1 D = none → LcG J g tt te vs σ D H1 fun H2 => Q (.ref D) H2) : tLc wi g tt te vs σ H Q := h
def Lw (P : Nat → List V → Hp → Prop) (n : Nat) (D : Addr) (i : Nat) (H : Hp) : Prop := ∃ ys : List V, ys.length = i ∧ i ≤ n ∧ P i ys H ∧ H D = some (.lst ys)
def LcK (P : Nat → List V → Hp → Prop) (n : Nat) (D : Addr) (i : Nat) : VK := fun y H4 => ∃ acc, H4 D = some (.lst acc) ∧ acc.length < sizeLine ∧ Lw P n D (i + 1) (upd H4 D (.lst (acc ++ [y])))
theorem lcK_ {P : Nat → List V → Hp → Prop} {n : Nat} {D : Addr} {i : Nat} {ys : List V} {y : V} {H4 : Hp} (hD : H4 D = some (.lst ys)) (hl : ys.length = i) (hi : i < n) (hn : n ≤ 100000) (h : P (i + 1) (ys ++ [y]) (upd H4 D (.lst (ys ++ [y])))) : LcK P n D i y H4 :=
  ⟨ys, hD, Nat.lt_of_lt_of_le (show ys.length < 100000 by omega) (by decide), ys ++ [y], by rw [List.length_append, hl]; rfl, hi, h, upd_same⟩
theorem lcR {lo : Int} {n : Nat} (P : Nat → List V → Hp → Prop) (hw : ∀ x, wipe ((wipe σ vs).set j (some x)) vs = wipe σ vs) (h0 : P 0 [] (upd H1 D (.lst [])))
    (hs : ∀ i ys H, i < n → ys.length = i → P i ys H → H D = some (.lst ys) → te ((wipe σ vs).set j (some (.int (lo + (i : Int))))) H (LcK P n D i))
    (hd : ∀ ys H, ys.length = n → P n ys H → H D = some (.lst ys) → Qd H) :
    LcG (Itr lo n) (gName j) tYes te vs σ D H1 Qd := by
  refine lc_range (Lw P n D) ⟨[], rfl, Nat.zero_le _, h0, upd_same⟩ (fun i H hi p => ?_) fun H p => ?_
  · obtain ⟨ys, hl, _, hp, hD⟩ := p
    refine ⟨hw _, ?_⟩
    unfold tYes
    dsimp only
    rw [if_pos rfl]
    exact hs i ys H hi hl hp hD
  · obtain ⟨ys, hl, _, hp, hD⟩ := p
    exact hd ys H hl hp hD
theorem lcT {a : Addr} {xs : List V} (P : Nat → List V → Hp → Prop) (hw : ∀ x, wipe ((wipe σ vs).set j (some x)) vs = wipe σ vs) (h0 : P 0 [] (upd H1 D (.lst [])))
    (ht : ∀ i ys H, P i ys H → SqT K H a xs)
    (hs : ∀ i x ys H, xs[i]? = some x → i < xs.length → ys.length = i → P i ys H → H D = some (.lst ys) → te ((wipe σ vs).set j (some x)) H (LcK P xs.length D i))
    (hd : ∀ ys H, ys.length = xs.length → P xs.length ys H → H D = some (.lst ys) → Qd H) :
    LcG (Itt K a) (gName j) tYes te vs σ D H1 Qd := by
  refine lc_tup (xs := xs) (Lw P xs.length D) ⟨[], rfl, Nat.zero_le _, h0, upd_same⟩ (fun i H _ p => ?_) (fun i x H hx p => ?_) fun H p => ?_
  · obtain ⟨ys, _, _, hp, _⟩ := p
    exact ht i ys H hp
  · obtain ⟨ys, hl, _, hp, hD⟩ := p
    refine ⟨hw _, ?_⟩
    unfold tYes
    dsimp only
    rw [if_pos rfl]
    exact hs i x ys H hx (List.getElem?_eq_some_iff.mp hx).1 hl hp hD
  · obtain ⟨ys, hl, _, hp, hD⟩ := p
    exact hd ys H hl hp hD
theorem lcL {a : Addr} {xs : List V} (P : Nat → List V → Hp → Prop) (hw : ∀ x, wipe ((wipe σ vs).set j (some x)) vs = wipe σ vs) (h0 : P 0 [] (upd H1 D (.lst [])))
    (ht : ∀ i ys H, P i ys H → SqL K H a xs)
    (hs : ∀ i x ys H, xs[i]? = some x → i < xs.length → ys.length = i → P i ys H → H D = some (.lst ys) → te ((wipe σ vs).set j (some x)) H (LcK P xs.length D i))
    (hd : ∀ ys H, ys.length = xs.length → P xs.length ys H → H D = some (.lst ys) → Qd H) :
    LcG (Itl K a) (gName j) tYes te vs σ D H1 Qd := by
  refine lc_list (xs := xs) (Lw P xs.length D) ⟨[], rfl, Nat.zero_le _, h0, upd_same⟩ (fun i H _ p => ?_) (fun i x H hx p => ?_) fun H p => ?_
  · obtain ⟨ys, _, _, hp, _⟩ := p
    exact ht i ys H hp
  · obtain ⟨ys, hl, _, hp, hD⟩ := p
    refine ⟨hw _, ?_⟩
    unfold tYes
    dsimp only
    rw [if_pos rfl]
    exact hs i x ys H hx (List.getElem?_eq_some_iff.mp hx).1 hl hp hD
  · obtain ⟨ys, hl, _, hp, hD⟩ := p
    exact hd ys H hl hp hD
/-- a loop over a tuple that stands still, turn by turn -/
theorem unrT {a : Addr} {xs : List V} {g : TG} {tb : TS} {nx bk ct : L2.St → Hp → Prop} {rt : VK} {H : Hp} (h : UnrT K a xs g tb nx rt xs σ H) :
    ForG (Itt K a) g tb ⟨nx, rt, bk, ct⟩ σ H := by
  refine for_tup (D := ⟨nx, rt, bk, ct⟩) (xs := xs) (fun i σ H => UnrT K a xs g tb nx rt (xs.drop i) σ H) h (fun i σ H hi p => ?_) (fun i x σ H hx p => ?_) fun σ H p => ?_
  · cases e : xs.drop i with
    | nil => rw [e] at p; exact p.1
    | cons y ys => rw [e] at p; exact p.1
  · have hi : i < xs.length := (List.getElem?_eq_some_iff.mp hx).1
    have e : xs.drop i = x :: xs.drop (i + 1) := by
      rw [List.drop_eq_getElem_cons hi]
      have := (List.getElem?_eq_some_iff.mp hx).2
      rw [this]
    rw [e] at p
    exact p.2
  · rw [List.drop_length] at p
    exact p.2
end
/-! ### comprehensions whose elements change nothing: f of each item -/
theorem same_upd {H H' : Hp} {D : Addr} {o : HO} (e : Same H H') (h : H D = none) : Same H (upd H' D o) := fun b x hb => by
  rw [upd_ne (ne_of_none hb h)]; exact e b x hb
theorem same_new {H : Hp} {p : Addr} {o : HO} (h : H p = none) : Same H (upd H p o) := same_upd (Same.refl H) h
theorem same_sqt {K : PySem.W.Frag} {H H' : Hp} {a : Addr} {xs : List V} (e : Same H H') (h : SqT K H a xs) : SqT K H' a xs := by
  rcases h with (h | ⟨o, h⟩) | h
  · exact .inl (.inl (e _ _ h))
  · exact .inl (.inr ⟨o, e _ _ h⟩)
  · exact .inr h
section
variable {σ : L2.St} {H1 : Hp} {D : Addr} {Qd : Hp → Prop} {te : TE} {vs : List Nat} {j : Nat} {K : PySem.W.Frag}
theorem lcTp {a : Addr} {xs : List V} (f : V → V) (hT : SqT K H1 a xs) (hn : H1 D = none) (hl : Nat.ble xs.length 100000 = true) (hw : ∀ x, wipe ((wipe σ vs).set j (some x)) vs = wipe σ vs)
    (hs : ∀ (i : Nat) (x : V) (H' : Hp) (R : VK), xs[i]? = some x → Same H1 H' → (∀ H4, Same H' H4 → R (f x) H4) → te ((wipe σ vs).set j (some x)) H' R)
    (hd : ∀ H', Same H1 H' → H' D = some (.lst (xs.map f)) → Qd H') :
    LcG (Itt K a) (gName j) tYes te vs σ D H1 Qd := by
  refine lcT (xs := xs) (fun i ys H' => ys = (xs.take i).map f ∧ Same H1 H') hw ⟨rfl, same_new hn⟩ (fun i ys H' p => same_sqt p.2 hT) (fun i x ys H' hx hi hy p hD => ?_) fun ys H' hy p hD => ?_
  · refine hs i x H' _ hx p.2 fun H4 e4 => lcK_ (e4 _ _ hD) hy hi (Nat.le_of_ble_eq_true hl) ⟨?_, same_upd (p.2.trans e4) hn⟩
    rw [p.1, List.take_add_one, hx, List.map_append]; rfl
  · refine hd H' p.2 ?_
    rw [hD, p.1, List.take_length]
theorem lcLp {a : Addr} {xs : List V} (f : V → V) (hT : SqL K H1 a xs) (hn : H1 D = none) (hl : Nat.ble xs.length 100000 = true) (hw : ∀ x, wipe ((wipe σ vs).set j (some x)) vs = wipe σ vs)
    (hs : ∀ (i : Nat) (x : V) (H' : Hp) (R : VK), xs[i]? = some x → Same H1 H' → (∀ H4, Same H' H4 → R (f x) H4) → te ((wipe σ vs).set j (some x)) H' R)
    (hd : ∀ H', Same H1 H' → H' D = some (.lst (xs.map f)) → Qd H') :
    LcG (Itl K a) (gName j) tYes te vs σ D H1 Qd := by
  refine lcL (xs := xs) (fun i ys H' => ys = (xs.take i).map f ∧ Same H1 H') hw ⟨rfl, same_new hn⟩ (fun i ys H' p => p.2.seq hT) (fun i x ys H' hx hi hy p hD => ?_) fun ys H' hy p hD => ?_
  · refine hs i x H' _ hx p.2 fun H4 e4 => lcK_ (e4 _ _ hD) hy hi (Nat.le_of_ble_eq_true hl) ⟨?_, same_upd (p.2.trans e4) hn⟩
    rw [p.1, List.take_add_one, hx, List.map_append]; rfl
  · refine hd H' p.2 ?_
    rw [hD, p.1, List.take_length]
end
/-! ### one object may change -/
def Kept (a : Addr) (H H' : Hp) : Prop := ∀ b o, b ≠ a → H b = some o → H' b = some o
theorem Kept.refl (a : Addr) (H : Hp) : Kept a H H := fun _ _ _ h => h
theorem Kept.trans {a : Addr} {H H1 H2 : Hp} (x : Kept a H H1) (y : Kept a H1 H2) : Kept a H H2 := fun b o n h => y b o n (x b o n h)
theorem kept_same {a : Addr} {H H' : Hp} (e : Same H H') : Kept a H H' := fun b o _ h => e b o h
theorem kept_upd {a : Addr} {H H' : Hp} {o : HO} (x : Kept a H H') : Kept a H (upd H' a o) := fun b u n h => by rw [upd_ne n]; exact x b u n h
theorem kept_new {a D : Addr} {H H' : Hp} {o : HO} (x : Kept a H H') (h : H' D = none) : Kept a H (upd H' D o) := fun b u n hb => by rw [upd_ne (ne_of_none (x b u n hb) h)]; exact x b u n hb
theorem kept_sql {a : Addr} {K : PySem.W.Frag} {H H' : Hp} {c : Addr} {xs : List V} (x : Kept a H H') (n : c ≠ a) (h : SqL K H c xs) : SqL K H' c xs := by
  rcases h with (h | ⟨o, h⟩) | h
  · exact .inl (.inl (x _ _ n h))
  · exact .inl (.inr ⟨o, x _ _ n h⟩)
  · exact .inr h
theorem kept_sqt {a : Addr} {K : PySem.W.Frag} {H H' : Hp} {c : Addr} {xs : List V} (x : Kept a H H') (n : c ≠ a) (h : SqT K H c xs) : SqT K H' c xs := by
  rcases h with (h | ⟨o, h⟩) | h
  · exact .inl (.inl (x _ _ n h))
  · exact .inl (.inr ⟨o, x _ _ n h⟩)
  · exact .inr h

/-! ### the reel of a law: cells, how many were begun, what is left of a great one -/
structure Hat (H : Hp) (a c : Addr) (ns : List Int) (n : Nat) : Prop where
  ex : ∃ t r : Int, H a = some (.lst [.ref c, .int t, .int r]) ∧ 0 ≤ t ∧ t ≤ n
  ne : c ≠ a
  cs : H c = some (.lst (ns.map V.int))
  le : ns.length ≤ 63
theorem Hat.at {H : Hp} {a c : Addr} {ns : List Int} {n : Nat} (h : Hat H a c ns n) : ∃ o, H a = Option.some o := by
  obtain ⟨t, r, e, _⟩ := h.ex
  exact ⟨_, e⟩
theorem Hat.na {H : Hp} {a c p : Addr} {ns : List Int} {n : Nat} (h : Hat H a c ns n) (hp : H p = none) : p ≠ a := by
  obtain ⟨o, e⟩ := h.at
  exact (ne_of_none e hp).symm
theorem Hat.nc {H : Hp} {a c p : Addr} {ns : List Int} {n : Nat} (h : Hat H a c ns n) (hp : H p = none) : p ≠ c := (ne_of_none h.cs hp).symm
theorem Hat.same {H H' : Hp} {a c : Addr} {ns : List Int} {n : Nat} (h : Hat H a c ns n) (e : Same H H') : Hat H' a c ns n := by
  obtain ⟨⟨t, r, h, h0⟩, h1, h2, h3⟩ := h
  exact ⟨⟨t, r, e _ _ h, h0⟩, h1, e _ _ h2, h3⟩
theorem Hat.mono {H : Hp} {a c : Addr} {ns : List Int} {n m : Nat} (h : Hat H a c ns n) (e : n ≤ m) : Hat H a c ns m := by
  obtain ⟨⟨t, r, h, h0, h4⟩, h1, h2, h3⟩ := h
  exact ⟨⟨t, r, h, h0, by omega⟩, h1, h2, h3⟩
theorem Hat.upd {H : Hp} {a c D : Addr} {ns : List Int} {n : Nat} {o : HO} (h : Hat H a c ns n) (hD : D ≠ a) (hc : D ≠ c) : Hat (L2.upd H D o) a c ns n := by
  obtain ⟨⟨t, r, h, h0⟩, h1, h2, h3⟩ := h
  exact ⟨⟨t, r, by rw [upd_ne hD.symm]; exact h, h0⟩, h1, by rw [upd_ne hc.symm]; exact h2, h3⟩
theorem Hat.new {H : Hp} {a c D : Addr} {ns : List Int} {n : Nat} {o : HO} (h : Hat H a c ns n) (hD : H D = none) : Hat (L2.upd H D o) a c ns n := h.upd (h.na hD) (h.nc hD)
theorem kept_at {a D : Addr} {H H' : Hp} {o : HO} (x : Kept a H H') (h : H D = none) : Kept a H (L2.upd H' D o) := fun b u n hb => by rw [upd_ne (ne_of_none hb h)]; exact x b u n hb
/-- a comprehension over a range whose elements draw: dn draws a turn at most, R of what is made so far -/
theorem lcRd {σ : L2.St} {H1 : Hp} {D : Addr} {Qd : Hp → Prop} {te : TE} {vs : List Nat} {j : Nat} {a c : Addr} {ns : List Int} {n dn k : Nat} {lo : Int} (R : Nat → List V → Prop)
    (hh : Hat H1 a c ns n) (hD : H1 D = none) (hk : k ≤ 100000) (hw : ∀ x, wipe ((wipe σ vs).set j (some x)) vs = wipe σ vs) (h0 : R 0 [])
    (hs : ∀ (i : Nat) (ys : List V) (H' : Hp) (Q : VK), i < k → ys.length = i → R i ys → Kept a H1 H' → Hat H' a c ns (n + dn * i) → (∀ y H4, Kept a H' H4 → Hat H4 a c ns (n + dn * (i + 1)) → R (i + 1) (ys ++ [y]) → Q y H4) → te ((wipe σ vs).set j (some (.int (lo + (i : Int))))) H' Q)
    (hd : ∀ (ys : List V) (H' : Hp), ys.length = k → R k ys → Kept a H1 H' → Hat H' a c ns (n + dn * k) → H' D = some (.lst ys) → Qd H') :
    LcG (Itr lo k) (gName j) tYes te vs σ D H1 Qd := by
  have da := hh.na hD
  have dc := hh.nc hD
  refine lcR (fun i ys H' => R i ys ∧ Kept a H1 H' ∧ Hat H' a c ns (n + dn * i)) hw ⟨h0, kept_at (Kept.refl _ _) hD, hh.new hD⟩ (fun i ys H' hi hy p hDy => ?_) fun ys H' hy p hDy => ?_
  · exact hs i ys H' _ hi hy p.1 p.2.1 p.2.2 fun y H4 k4 h4 r4 => lcK_ (k4 _ _ da hDy) hy hi hk ⟨r4, kept_at (p.2.1.trans k4) hD, h4.upd da dc⟩
  · exact hd ys H' hy p.1 p.2.1 p.2.2 hDy
theorem lcTd {K : PySem.W.Frag} {σ : L2.St} {H1 : Hp} {D : Addr} {Qd : Hp → Prop} {te : TE} {vs : List Nat} {j : Nat} {a c b : Addr} {ns : List Int} {n dn : Nat} {xs : List V} (R : Nat → List V → Prop) (hT : SqT K H1 b xs) (hb : b ≠ a)
    (hh : Hat H1 a c ns n) (hD : H1 D = none) (hk : xs.length ≤ 100000) (hw : ∀ x, wipe ((wipe σ vs).set j (some x)) vs = wipe σ vs) (h0 : R 0 [])
    (hs : ∀ (i : Nat) (x : V) (ys : List V) (H' : Hp) (Q : VK), xs[i]? = some x → ys.length = i → R i ys → Kept a H1 H' → Hat H' a c ns (n + dn * i) → (∀ y H4, Kept a H' H4 → Hat H4 a c ns (n + dn * (i + 1)) → R (i + 1) (ys ++ [y]) → Q y H4) → te ((wipe σ vs).set j (some x)) H' Q)
    (hd : ∀ (ys : List V) (H' : Hp), ys.length = xs.length → R xs.length ys → Kept a H1 H' → Hat H' a c ns (n + dn * xs.length) → H' D = some (.lst ys) → Qd H') :
    LcG (Itt K b) (gName j) tYes te vs σ D H1 Qd := by
  have da := hh.na hD
  have dc := hh.nc hD
  refine lcT (xs := xs) (fun i ys H' => R i ys ∧ Kept a H1 H' ∧ Hat H' a c ns (n + dn * i)) hw ⟨h0, kept_at (Kept.refl _ _) hD, hh.new hD⟩ (fun i ys H' p => kept_sqt p.2.1 hb hT) (fun i x ys H' hx hi hy p hDy => ?_) fun ys H' hy p hDy => ?_
  · exact hs i x ys H' _ hx hy p.1 p.2.1 p.2.2 fun y H4 k4 h4 r4 => lcK_ (k4 _ _ da hDy) hy hi hk ⟨r4, kept_at (p.2.1.trans k4) hD, h4.upd da dc⟩
  · exact hd ys H' hy p.1 p.2.1 p.2.2 hDy
theorem at_int {ns : List Int} {z : Int} (h0 : 0 ≤ z) (h1 : z < ns.length) : ∃ v, atI (ns.map V.int) z = some (.int v) := by
  obtain ⟨k, rfl⟩ := Int.eq_ofNat_of_zero_le h0
  have hk : k < ns.length := by omega
  exact ⟨ns[k], atI_nat (by rw [List.getElem?_map, List.getElem?_eq_getElem hk]; rfl)⟩
theorem at_some {xs : List V} {z : Int} (h0 : 0 ≤ z) (h1 : z < xs.length) : ∃ v, atI xs z = some v ∧ v ∈ xs := by
  obtain ⟨k, rfl⟩ := Int.eq_ofNat_of_zero_le h0
  have hk : k < xs.length := by omega
  exact ⟨xs[k], atI_nat (List.getElem?_eq_getElem hk), List.getElem_mem hk⟩
theorem cut_to (xs : List V) (k : Nat) : cutV xs none (some (k : Int)) = xs.take k := by
  unfold cutV
  rw [HT.sIx_none, HT.sIx_nat, List.drop_zero, Nat.sub_zero]
  by_cases h : k ≤ xs.length
  · rw [Nat.min_eq_left h]
  · rw [Nat.min_eq_right (by omega), List.take_of_length_le (Nat.le_refl _), List.take_of_length_le (by omega)]
/-- xs != [] of ints -/
theorem ne_nil_ {K : PySem.W.Frag} {H : Hp} {Q : VK} {c e : Addr} {ns : List Int} (hc : SqL K H c (ns.map V.int)) (he : SqL K H e []) (h : Q (.bl (!ns.isEmpty)) H) : rNeU K (.ref c) (.ref e) H Q := by
  have dp : ∀ ns : List Int, DpAll K H (ns.map V.int) (ns.map PyData.int) := fun ns => by
    induction ns with
    | nil => exact .nil
    | cons n r ih => exact .cons (.int n) ih
  refine .inr ⟨.list (ns.map PyData.int), .list [], .lst hc (dp ns), .lst he .nil, PySem.W.shaped_ints ns, PySem.W.shaped_ints [], ?_⟩
  have e2 : PyData.eqv (.list (ns.map PyData.int)) (.list []) = ns.isEmpty := by
    cases ns with
    | nil => simp [PyData.eqv, PyData.eqvAll]
    | cons n r => simp [PyData.eqv, PyData.eqvAll]
  rw [e2]; exact h
end HX
/-! super().__init__(..) as the first statement of an own class's __init__ -/
namespace HS
open PySem PySem.Spec PyProof.Rows L2 NdefX StX ClX
/-- what stands of a def that closes over __class__, cell cc, class D; its code object at cda -/
structure SupDef (P : Program) (K : PySem.W.Frag) (mg : Str → Option Value) (F : NF) (f D cc : Addr) : Prop where
  lk : ∃ (oc : Value) (od : Option Addr) (dV kV doc pm ct : Value) (an : Option Addr) (osl : Array (Option Value)), K.lookup f = some ⟨oc, od, .func (PySem.W.fnX F.name F.qual F.params F.body F.scope F.cl dV kV doc pm an (.ref F.c) ct), osl⟩ ∧
    (∀ us : List Value, us.length = (F.params.args.map (·.arg)).length → bindArgs (PySem.W.fnX F.name F.qual F.params F.body F.scope F.cl dV kV doc pm an (.ref F.c) ct) ⟨us, []⟩ = pure ((F.params.args.map (·.arg)).zip us)) ∧
    ∀ us : List Value, us.length = (F.params.args.map (·.arg)).length → bindArgs (PySem.W.fnX F.name F.qual F.params F.body F.scope F.cl dV kV doc pm an (.ref F.c) ct) ⟨us.take 1, (F.params.args.map (·.arg)).tail.zip us.tail⟩ = pure ((F.params.args.map (·.arg)).zip us)
  cd : PySem.W.codeIn K (.ref F.c) F.qual = true
  cl : F.cl = [(("__class__" : Str), cc)]
  code : ∃ (ccl : Value) (cdd : Option Addr) (vs : Array Value) (ccs : Array (Option Value)) (file : Str) (tf : Tok), K.lookup F.c = some ⟨ccl, cdd, .fields vs, ccs⟩ ∧ vs[2]? = some (.str file tf) ∧ ((P.main.file : Str) == file) = true
  cell : ∃ (ccl : Value) (cdd : Option Addr) (ccs : Array (Option Value)), K.lookup cc = some ⟨ccl, cdd, .cell (some (.ref D)), ccs⟩
  isD : ∃ cdD, PySem.W.clsIn K D = some cdD
  sup : mg "super" = none
  top : (P.main.scope.names.lookup ("super" : Str)).isSome = false
/-- what a class C must have that super() of D finds the def at g -/
structure SupCls (K : PySem.W.Frag) (C D : Addr) (m : Str) (g : Addr) : Prop where
  hm : PySem.W.ks_superIn K C D m = some (some (.ref g))
  ty : PySem.W.typeIn K (.ref g) = some (.type "function")
  fi : PySem.W.fnIn K g = true
  sub : PySem.W.mroIn K C (.ref D) = some true
  op : PySem.W.nsIn K cStatics "thirdparty.any" = some none

section
variable {P : Program} {w : World} {K : PySem.W.Frag} {mg : Str → Option Value} {base : Heap} {k : Nat} {F : NF} {f D cc : Addr} {ps N : List Str} {sp : Sp}
def argsB (ps : List Str) : Bool → List Value → Args
  | false, us => ⟨us, []⟩
  | true, us => ⟨us.take 1, ps.tail.zip us.tail⟩
def FnB (P : Program) (w : World) (K : PySem.W.Frag) (mg : Str → Option Value) (base : Heap) (CX : CXT) (k : Nat) (f : Addr) (ps : List Str) (kw : Bool) (sp : Sp) : Prop :=
  ∀ (A : Around) (outer : List Env) (s : Shared) (H : Hp) (us : List Value) (vs : List V) (Q : VK) (E : XK), Room k A → Env0 P w K mg base A outer s H → Vals vs us → sp vs H Q E →
    codeAny (model P w) A (.call (.ref f) (argsB ps kw us)) (CR CX outer P w H s Q E) s
theorem fn_superB (kw : Bool) {e : Expr} {es : List Expr} {rest : List Stmt} {p0 p1 apos cpos spos : Pos} {pl : Sem Bool} (SD : SupDef P K mg F f D cc)
    (hbody : F.body = .Expr (.Call (.Attribute (.Call (.Name "super" p0) [] [] p1) "__init__" apos) (e :: es) [] cpos) spos :: rest)
    (S : NScope N ps [("__class__" : Str)] F.scope) (hps : F.params.args.map (·.arg) = ps) (hpo : F.params.posonlyargs = []) (hself : ps.head? = some ("self" : Str)) (hN0 : N[0]? = some ("self" : Str)) (hks : F.scope.names.lookup ("super" : Str) = some .globalImplicit)
    (hst : ∀ env, starEach (e :: es) env = (false, eval e env) :: starEach es env) (hpl : ∀ env, (backTo cpos (starEach es env)).any (·.1) = false)
    (hi : ∀ L, interactive (envF F f L) = false) (hsw : ∀ L, swapsWith (.Call (.Attribute (.Call (.Name "super" p0) [] [] p1) "__init__" apos) (e :: es) [] cpos) none spos.line (envF F f L) = pure false)
    (he : ∀ L, eval (.Call (.Attribute (.Call (.Name "super" p0) [] [] p1) "__init__" apos) (e :: es) [] cpos) (envF F f L) = (do
      let ov ← attributeBase (.Call (.Name "super" p0) [] [] p1) "__init__" (envF F f L) (eval (.Call (.Name "super" p0) [] [] p1) (envF F f L))
      standAt apos.atName
      let (f', first) ← holding [ov] (getMethod ov "__init__" pl)
      callWith cpos f' first (backTo cpos (starEach (e :: es) (envF F f L))) []))
    (len : ∀ vs H Q E, sp vs H Q E → vs.length = ps.length)
    (h : ∀ (A : Around) (outer : List Env) (s : Shared) (H : Hp) (vs : List V) (Q : VK) (E : XK), Room k (A.deeper (envF F f s.heap.objs.size)) → sp vs H Q E →
      ∃ (x C dx g : Addr) (fs : List (Str × V)) (vr : List V) (ta : TA) (tr : TS) (spB : Sp), vs = .ref x :: vr ∧ H x = some (.ins C dx fs) ∧ SupCls K C D "__init__" g ∧ FnR P w K mg base CX0 k g spB ∧
        PA (ncx CX0 P w K mg base N F f A outer s H E)  (e :: es) ta ∧ PSs (ncx CX0 P w K mg base N F f A outer s H E)  rest tr ∧
        ta (startF N vs [none]) H fun ws H1 => spB (.ref x :: ws) H1 (fun _ H2 => tr { nx := fun _ H' => Q .non H', rt := Q } (startF N vs [none]) H2) E0) :
    FnB P w K mg base CX0 (k + 1) f ps kw sp := by
  intro A outer s H us vs Q E hr e0 r hsp
  have hl := len _ _ _ _ hsp
  obtain ⟨oc, od, dV, kV, doc, pm, ct, an, osl, lk, hb, hbk⟩ := SD.lk
  have KX : K.In s.heap := e0.mod.kin.keeps fun b o e => (e0.bs b o e).1
  have lim : s.heap.NoLimit := e0.mod.nolimit.keeps fun b o e => (e0.bs b o e).1
  have hul : us.length = ps.length := by rw [← r.length]; exact hl
  have hbind : BindsTo s (PySem.W.fnX F.name F.qual F.params F.body F.scope F.cl dV kV doc pm an (.ref F.c) ct) (argsB ps kw us) (ps.zip us) := by
    cases kw with
    | false =>
      have z := hb us (by rw [hps]; exact hul)
      rw [hps] at z
      exact .of_eq z
    | true =>
      have z := hbk us (by rw [hps]; exact hul)
      rw [hps] at z
      exact .of_eq z
  obtain ⟨x, C, dx, g, fs, vr, ta, tr, spB, rfl, hx, SC, G, hta, htr, hgo⟩ := h A outer s H vs Q E (hr.deeper _) hsp
  obtain ⟨ccl, cdd, cvs, ccs, file, tf, hcode, hvs, hfile⟩ := SD.code
  obtain ⟨cl1, cl2, cl3, hcell⟩ := SD.cell
  obtain ⟨cdD, hD⟩ := SD.isD
  have hcl := SD.cl
  have hccH : H cc = none := (e0.bs cc _ (e0.mod.kin _ _ hcell)).2
  have CA : CellsAt F.cl [("__class__" : Str)] [none] s.heap H := by
    rw [hcl]
    refine ⟨rfl, fun y c e => ?_, fun y z c e1 e2 => ?_, fun i y e => ?_⟩
    · have e' := PySem.mem_of_lookup e
      rw [List.mem_singleton] at e'
      cases e'
      exact ⟨hccH, _, _, KX _ _ hcell, rfl⟩
    · have a1 := PySem.mem_of_lookup e1
      have a2 := PySem.mem_of_lookup e2
      rw [List.mem_singleton] at a1 a2
      cases a1
      cases a2
      rfl
    · match i, e with
      | 0, e =>
        cases e
        exact ⟨cc, rfl, fun v z => by cases z⟩
  refine PySem.ks_codeAny_call_defAt (fd := PySem.W.fnX F.name F.qual F.params F.body F.scope F.cl dV kV doc pm an (.ref F.c) ct) (body := F.body) (binds := ps.zip us) hr.depth (KX _ _ lk) rfl lim (PySem.W.codeRec_of KX SD.cd) rfl hbind S.nocell (fun y hy => S.par y.1 (List.of_mem_zip (a := y.1) (b := y.2) hy).1) (fun h₁ hns hk₁ => ?_) S.co S.gen S.kind
  have I : Inv (ncx CX0 P w K mg base N F f A outer s H E) [] (startF N (.ref x :: vr) [none]) H { s with heap := h₁, toks := s.toks + (ps.zip us).length } := inv_startN S hr.hd e0 hl r CA hns hk₁
  have KX1 := I.kIn
  show _root_.PySem.wpAt (model P w) (A.deeper (envF F f s.heap.objs.size)) (.func F.body (envF F f s.heap.objs.size)) (execs F.body (envF F f s.heap.objs.size)) _ _ _
  rw [hbody]
  refine PySem.ks_wpAt_execs_cons (PySem.ks_wpAt_Expr_any (PySem.ks_wpAt_MethodCall (pl := pl) ?_ (he _)) (hi _) (hsw _))
  have hxI : ∃ ox, h₁.get? x = some ox ∧ ox.cls = .ref C ∧ ∀ c, ox.data ≠ .cls c := by
    obtain ⟨_, _, _, e1, _⟩ := (show ObjOk P w H h₁ x (.ins C dx fs) from I.hok x _ hx)
    exact ⟨_, e1, rfl, fun c z => nomatch z⟩
  obtain ⟨ox, hx1, hx2, hx3⟩ := hxI
  obtain ⟨oD, hD1, hD2⟩ : ∃ oD, h₁.get? D = some oD ∧ oD.data = .cls cdD := by
    unfold PySem.W.clsIn at hD
    split at hD
    · rename_i c d cd' sl ho
      cases hD
      exact ⟨_, KX1 _ _ ho, rfl⟩
    · cases hD
  obtain ⟨m, hnm, hlk⟩ := I.loc
  obtain ⟨mb, hb1, hb2⟩ := I.mod.blt
  cases hps0 : F.params.args with
  | nil => rw [hps0] at hps; rw [← hps] at hself; cases hself
  | cons ar ars =>
  have har : ar.arg = ("self" : Str) := by
    rw [← hps, hps0] at hself
    exact Option.some.inj hself
  have hselfM : m "self" = some (.ref x) := by
    obtain ⟨u, ru, lo⟩ := hlk 0 "self" (.ref x) hN0 rfl (.inl (S.par _ (by rw [← hps, hps0, List.map_cons, har]; exact List.mem_cons_self)))
    have ru' : u = Value.ref x := ru
    subst ru'
    rcases lo with ⟨_, z⟩ | ⟨z, _⟩
    · exact z
    · have z' := S.par ("self" : Str) (by rw [← hps, hps0, List.map_cons, har]; exact List.mem_cons_self)
      have z2 : F.scope.names.lookup ("self" : Str) = some .cell ∨ F.scope.names.lookup ("self" : Str) = some .free := z
      rw [z'] at z2
      rcases z2 with z2 | z2 <;> cases z2
  refine PySem.ks_wpAt_super_base (env := envF F f s.heap.objs.size) (ar := ar) hks (S.frk _ (List.mem_singleton.mpr rfl)) (by decide) rfl (KX1 _ _ lk) rfl (by show (F.params.posonlyargs ++ F.params.args).head? = some ar; rw [hpo, hps0]; rfl) rfl (KX1 _ _ hcode) rfl hvs hfile SD.top ?_
  refine PySem.W.ks_loadName_global S.kind hks (PySem.Calls.loadGlobal_builtin (I.mod.glob.keeps I.bk) SD.sup (hb1.keeps I.bk) ((hb2 "super" (by decide)).trans (by decide +kernel : bootBuiltins "super" = some (.type "super"))) ⟨rfl, ?_⟩)
  refine wpAny_loadName_free S.kind (S.frk _ (List.mem_singleton.mpr rfl)) (by show List.lookup ("__class__" : Str) F.cl = some cc; rw [hcl]; rfl) ⟨_, KX1 _ _ hcell, rfl⟩ ?_
  refine wpAny_loadName_local S.kind (S.par _ (by rw [← hps, hps0]; exact List.mem_cons_self)) hnm (by rw [har]; exact hselfM) ?_
  refine PySem.ks_wpAny_isType_cls hD1 hD2 ⟨rfl, ?_⟩
  refine PySem.ks_wpAny_call_super hD1 hD2 hx1 hx2 hx3 (PySem.W.looks_mroIn KX1 SC.sub) (fun h2 e2 k2 => ?_)
  have I2 : Inv (ncx CX0 P w K mg base N F f A outer s H E) [(h₁.objs.size, PySem.W.ks_superObj D x C)] (startF N (.ref x :: vr) [none]) H { s with heap := h2, toks := s.toks + (ps.zip us).length } := pin_new (s := { s with heap := h₁, toks := s.toks + (ps.zip us).length }) I k2 (Nat.le_refl _) e2 (fun v z => nomatch z)
  have hm := SC.hm
  cases hc : PySem.W.clsIn K C with
  | none => unfold PySem.W.ks_superIn at hm; rw [hc] at hm; cases hm
  | some cd =>
  unfold PySem.W.ks_superIn at hm
  rw [hc] at hm
  obtain ⟨of, hof, hofc⟩ : ∃ of, h2.get? g = some of ∧ of.cls = .type "function" := by
    have ht' : (K.lookup g).map (·.cls) = some (.type "function") := SC.ty
    cases z : K.lookup g with
    | none => rw [z] at ht'; cases ht'
    | some of => rw [z] at ht'; exact ⟨of, I2.kIn _ _ z, Option.some.inj ht'⟩
  have hxC : x ≠ C := by
    rintro rfl
    unfold PySem.W.clsIn at hc
    split at hc
    · rename_i c d cd' sl ho
      have z := (I.bs _ _ (I.mod.kin _ _ ho)).2
      rw [hx] at z
      cases z
    · cases hc
  refine PySem.ks_wpAny_getMethod_super (pin_at I2) (PySem.W.looks_opaque I2.kIn SC.op) (l₀ := cd.mro) (fun A Q E s k q => wpAny_bind ((PySem.W.looks_clsIn I2.kIn hc) A _ E s k (wpAny_pure q))) rfl I2.kIn hm hof hofc hxC (by decide) ?_
  have I3 : Inv (ncx CX0 P w K mg base N F f A outer s H E) [(h2.objs.size, PySem.W.methodObj (.ref g) (.ref x)), (h₁.objs.size, PySem.W.ks_superObj D x C)] (startF N (.ref x :: vr) [none]) H { s with heap := h2.push (PySem.W.methodObj (.ref g) (.ref x)), toks := s.toks + (ps.zip us).length + 1 } :=
    pin_new (s := { s with heap := h2, toks := s.toks + (ps.zip us).length }) I2 (fun _ _ z => Heap.get?_push_of_some _ z) (Nat.le_refl _) (Heap.get?_push_size h2 rfl) (fun v z => nomatch z)
  have hq := pin_at I3
  have hL : h2.objs.size ≠ (ncx CX0 P w K mg base N F f A outer s H E).env.locals := (I3.pin (h2.objs.size, PySem.W.methodObj (.ref g) (.ref x)) (List.mem_append_right _ List.mem_cons_self)).2.2.1
  have hbn : base.get? h2.objs.size = none := base_none I2 (Nat.le_refl _)
  refine PySem.W.callWith_M (K := K) (h₀ := base) (first := []) I3.ok.mod.kin (news_at hL hbn hq) List.mem_cons_self SC.fi ?_ (hst _) (hpl _)
  refine thn (hta.run cpos _ _ _ H _ I3 hgo) fun ws s4 ⟨vs4, H4, I4, r4, q4⟩ => ⟨⟨pin_at I4, I4.kIn⟩, ?_⟩
  have hroom : Room k (ncx CX0 P w K mg base N F f A outer s H E).A := hr.deeper _
  have z := wpAny_call (PySem.W.method_call (pin_at I4) (run_fnR (us := .ref x :: ws) (vs := .ref x :: vs4) G hroom pass0 I4 (.cons rfl r4) q4))
  refine wpAny_mono z (fun u s5 h5 => ?_) (fun e s5 h5 => ?_)
  · obtain ⟨v5, H5, I5, r5, q5⟩ := h5
    refine _root_.PySem.wpAt_of_wpAny ?_
    refine wpAny_mono (htr.run _ s5 _ H5 _ I5 q5) (fun fl s' hs => ?_) fun e s' hs => hs
    have fin : ∀ {σ' : L2.St} {H' : Hp} {v : V} {u : Value} {pn : List (Addr × Obj)}, Inv (ncx CX0 P w K mg base N F f A outer s H E) pn σ' H' s' → RelV v u → Q v H' → CE outer P w H s Q u s' :=
      fun {σ' H' v u pn} J rv q => ⟨v, H', J.os, J.bare, J.base, J.hok, rv, q⟩
    cases fl with
    | ret u =>
      obtain ⟨v, σ', H', J, rv, q⟩ := hs
      exact fin J rv q
    | next =>
      obtain ⟨σ', H', J, q⟩ := hs
      exact fin (v := V.non) (u := Value.none) J rfl q
    | brk =>
      obtain ⟨_, _, _, q⟩ := hs
      exact False.elim q
    | cont =>
      obtain ⟨_, _, _, q⟩ := hs
      exact False.elim q
  · exact h5
end
/-! an own class made by names alone, in the order of the parameters -/
section
variable {X : Cx} {CX : CXT} {k : Nat} {f C : Addr} {ps : List Str} {sp : Sp} {E : XK} {x : Str} {p pos : Pos} {kws : List Keyword} {tk : TA}
theorem run_makeB {pins : List (Addr × Obj)} {σ : L2.St} {H : Hp} {s : Shared} {Q : VK} {us : List Value} {vs : List V} (M : Mk X.K C f) (F : FnB X.prog X.w X.K X.mg X.base CX k f ps true sp) (hr : Room (k + 1) X.A) (hx : Passes CX X E) (I : Inv X pins σ H s) (r : Vals vs us)
    (h : ∀ x dx, H x = Option.none → H dx = Option.none → dx ≠ x → sp (V.ref x :: vs) (upd (upd H dx (.own x)) x (.ins C dx [])) (fun v H2 => v = .non ∧ Q (.ref x) H2) E) :
    wpAny (model X.prog X.w) X.A (call (.ref C) [] (ps.tail.zip us)) (EP X pins σ Q) X.xe s := by
  have hq := h (s.heap.objs.size + 1) s.heap.objs.size (I.hok.fresh (Nat.le_succ _)) (I.hok.fresh (Nat.le_refl _)) (Nat.ne_of_lt (Nat.lt_succ_self _))
  have I2 := Inv.made (C := C) I
  have r2 : Vals (V.ref (s.heap.objs.size + 1) :: vs) (Value.ref (s.heap.objs.size + 1) :: us) := .cons rfl r
  refine wpAny_call (make_map (f := f) I.kIn M.makes M.init (beq_iff_eq.mp M.fn) (codeAny_mono (F _ X.stack _ _ (Value.ref (s.heap.objs.size + 1) :: us) _ _ E (hr.make C [] (ps.tail.zip us)) (I2.env0.make C [] (ps.tail.zip us)) r2 hq) fun r s' hq' => ?_))
  cases r with
  | error e => exact hx pins σ _ _ e s' I2 hq'
  | ok fl =>
    cases fl with
    | ret u =>
      obtain ⟨v, H', I3, rv, ev, q3⟩ := I2.after hq'
      subst ev
      exact ⟨rv, ⟨V.ref (s.heap.objs.size + 1), H', I3, rfl, q3⟩⟩
    | next => exact False.elim hq'
    | brk => exact False.elim hq'
    | cont => exact False.elim hq'
theorem pe_makeB (M : Mk X.K C f) (F : FnB X.prog X.w X.K X.mg X.base CX k f ps true sp) (hr : Room (k + 1) X.A) (hg : Gl X x) (hm : X.mg x = some (.ref C)) (hx : Passes CX X E) (hkw : PK X kws tk)
    (hks : (backToKw pos (keywordEach kws X.env)).filterMap (·.1) = ps.tail := by rfl) (hall : (backToKw pos (keywordEach kws X.env)).all (·.1.isSome) = true := by rfl) (hdb : (x == ("__debug__" : Str)) = false := by decide)
    (hpl : ((backTo pos (starEach [] X.env)).any (·.1) || (backToKw pos (keywordEach kws X.env)).any (·.1.isNone)) = false := by rfl) : PE X (.Call (.Name x p) [] kws pos) (tMakeR C sp E tk) := by
  refine ⟨fun pins s σ H Q I h => ?_⟩
  refine wpAny_Call_Name_kw (ld_glob I hg hm ?_ hdb)
  refine PySem.W.callWith_KW0 (h₀ := X.base) I.ok.mod.kin M.kp hall ?_ hpl
  refine thn (hkw.run pos pins s σ H _ I h) fun ws s2 ⟨zs, H2, I2, rz, q2⟩ => ⟨I2.kIn, ?_⟩
  rw [hks]
  exact run_makeB M F hr hx I2 rz q2
end
end HS
/-! e.__class__, C.__name__, == and != by an own __eq__ with any answer -/
namespace HP
open PySem PySem.Spec PyProof.Rows L2 StX ClX
/-! ### the name of a class -/
structure ClsNm (K : PySem.W.Frag) (C : Addr) (nm : Str) : Prop where
  rd : PySem.W.readsIn K C (.type "type") = true
  at_ : PySem.W.findCls K (.ref C) (.type "type") "__name__" = some (.get (.builtin "getset_descriptor.__get__") (.builtin "type.__name__") (.ref C) (.type "type"))
  lk : ∃ (od : Option Addr) (cd : ClassData) (sl : Array (Option Value)) (tk : Tok), K.lookup C = some ⟨.type "type", od, .cls cd, sl⟩ ∧ sl[2]? = some (some (.str nm tk))
section
open PySem.W PySem.Calls Builtin Builtin.Getset_descriptor
variable {prog : Program} {w : World} {A : Around} {E : Value → Shared → Prop} {s : Shared} {R : Result → Shared → Prop} {C : Addr} {nm : Str} {tk : Tok} {od : Option Addr} {cd : ClassData} {sl : Array (Option Value)}
theorem nm_get {tp : Value} (hC : s.heap.get? C = some ⟨.type "type", od, .cls cd, sl⟩) (hs : sl[2]? = some (some (.str nm tk))) (h : R (.ok (.ret (.str nm tk))) s) :
    codeAny (model prog w) A (.call (.builtin "getset_descriptor.__get__") ⟨[.builtin "type.__name__", .ref C, tp], []⟩) R s := by
  obtain ⟨hh, g, dr, t, os⟩ := s
  have L0 : Looks (model prog w) hh (typeOf (.ref C)) (.type "type") := fun A Q E s k q => by
    refine wpAny_typeOf ⟨_, k _ _ hC, rfl⟩ q
  have L1 : Looks (model prog w) hh (isSubtype (.type "type") (.type "type")) true := Looks.of_pure (by rw [isSubtype_type]; kernel_rfl)
  refine codeAny_call_builtin KF.slot_gs.plain KF.entry_gs (KF.slot_gs.check _ _ _ _ _ _ _ _ ktyn_type (KF.args_gs _ _ _) ?_)
  unfold Builtin.«getset_descriptor.__get__» descrGet
  rw [dga_obj]
  refine wpAny_bind (wpAny_pure ?_)
  unfold descrGetter descrCheckInstance descrNameAndClass isInstance
  simp only [ktyn_owner]
  repeat lk
  refine ⟨Code.quiet_builtin _ (by decide +kernel), codeAny_builtin ktyn_entry ?_⟩
  unfold Builtin.«type.__name__» keptObject PySem.slotAt
  dsimp only
  refine wpAny_bind (wpAny_bind (wpAny_loadPart_at hC ?_))
  simp only [hs, Option.join]
  first
    | exact wpAny_pure (wpAny_bind (wpAny_pure (wpAny_pure h)))
    | exact wpAny_pure (wpAny_bind (wpAny_bind (wpAny_pure (wpAny_pure h))))
    | exact wpAny_pure (wpAny_pure h)
    | exact wpAny_pure (wpAny_bind (wpAny_pure h))
    | exact wpAny_bind (wpAny_pure (wpAny_pure h))
    | trace_state
end
section
variable {X : Cx} {e : Expr} {ta : TE} {K : PySem.W.Frag} {pos : Pos}
def tName (K : PySem.W.Frag) (ta : TE) : TE := fun σ H Q => ta σ H fun x H1 => ∃ C nm, x = .ref C ∧ ClsNm K C nm ∧ Q (.str nm) H1
theorem pe_name (he : PE X e ta) (hb : attributeBase e "__name__" X.env (eval e X.env) = eval e X.env := by rfl) (hK : X.K = K := by rfl) : PE X (.Attribute e "__name__" pos) (tName K ta) := by
  cases hK
  refine ⟨fun pins s σ H Q I h => ?_⟩
  refine attr_of hb (thn (he.run pins s σ H _ I h) fun u s1 ⟨x, H1, I1, rx, C, nm, ex, k, q⟩ => ?_)
  subst ex
  obtain rfl : u = Value.ref C := rx
  obtain ⟨od, cd, sl, tk, hl, hs⟩ := k.lk
  refine PySem.W.cls_bind I1.kIn k.rd k.at_ (wpAny_call (nm_get (s := { s1 with toks := s1.toks + 1 }) (I1.kIn _ _ hl) hs ?_))
  exact PySem.W.handed_on rfl ⟨.str nm, H1, I1.tok _, ⟨_, rfl⟩, q⟩
/-! ### the class of an instance -/
structure HasCls (K : PySem.W.Frag) (C : Addr) : Prop where
  pg : PySem.W.plainGet K C "__class__" = true
  hd : PySem.W.hasDictIn K C = true
  at_ : PySem.W.findIn K (.ref C) "__class__" = some (some (.builtin "object.__class__"))
  sp : PySem.W.specialIn K (.builtin "object.__class__") "__get__" = some (some (.builtin "getset_descriptor.__get__"))
  tk : PySem.W.takesIn K (.builtin "object.__class__") = some true
  ob : PySem.W.mroIn K C (.type "object") = some true
def tClass (K : PySem.W.Frag) (ta : TE) : TE := fun σ H Q => ta σ H fun x H1 => ∃ a C dx fs, x = .ref a ∧ H1 a = some (.ins C dx fs) ∧ HasCls K C ∧ Q (.ref C) H1
theorem pe_class (he : PE X e ta) (hb : attributeBase e "__class__" X.env (eval e X.env) = eval e X.env := by rfl) (hK : X.K = K := by rfl) : PE X (.Attribute e "__class__" pos) (tClass K ta) := by
  cases hK
  refine ⟨fun pins s σ H Q I h => ?_⟩
  refine attr_of hb (thn (he.run pins s σ H _ I h) fun u s1 ⟨x, H1, I1, rx, a, C, dx, fs, ex, ha, k, q⟩ => ?_)
  subst ex
  obtain rfl : u = Value.ref a := rx
  obtain ⟨mA, J, _⟩ := ins_get I1.hok ha
  obtain ⟨od, J, _⟩ := J.look
  obtain ⟨m, hF⟩ := I1.fr
  exact PySem.W.get_class hF I1.ok.mod.kin J k.pg k.hd k.at_ k.sp k.tk k.ob ⟨.ref C, H1, I1.tok _, rfl, q⟩
end
/-! ### == and != by an own __eq__ -/
structure EqCls (K : PySem.W.Frag) (C D f : Addr) : Prop where
  eq : PySem.W.findIn K (.ref C) "__eq__" = some (some (.ref f))
  fn : PySem.W.isFn K (.ref f) = true
  nf : PySem.W.notFirst K C (.ref D) = true
  ne : PySem.W.findIn K (.ref C) "__ne__" = some (some (.builtin "object.__ne__"))
  ob : PySem.W.mroIn K C (.type "object") = some true
def rEqO (neg : Bool) (K : PySem.W.Frag) (f : Addr) (sp : Sp) : R2 := fun x y H Q => ∃ a b C dx fs D dy gs, x = .ref a ∧ y = .ref b ∧ H a = some (.ins C dx fs) ∧ H b = some (.ins D dy gs) ∧ EqCls K C D f ∧
  sp [.ref a, .ref b] H (fun v H' => ∃ r, v = .bl r ∧ Q (.bl (if neg then !r else r)) H') E0
section
open PySem.W
variable {prog : Program} {w : World} {A : Around} {E : Value → Shared → Prop} {s : Shared} {K : Frag} {x C : Addr} {ox : Obj} {od : Option Obj} {b tb : Value}
theorem bind_ne (self : Value) : bindSpecial (.builtin "object.__ne__") self = pure (.builtin "object.__ne__", [self]) := PySem.F.slot_object_ne.bind self
theorem ifBound_ne {M : Model} {args : List Value} {Q : Option Value → Shared → Prop} (X : K.In s.heap) (I : InstAt s.heap x ox C od) (hs : findIn K (.ref C) "__ne__" = some (some (.builtin "object.__ne__")))
    (h : wpAny M A (call (.builtin "object.__ne__") (.ref x :: args)) (fun v => Q (some v)) E s) : wpAny M A (callSpecialIfBound? (.ref x) "__ne__" args) Q E s := by
  simp only [callSpecialIfBound?, bindSpecialIfBound?]
  refine wpAny_holding (wpAny_bind (wpAny_bind (wpAny_bind (I.type.here ((looks_findIn X hs).here ?_)))))
  refine wpAny_bind (wpAny_askSetting (wpAny_ite ?_))
  have fin : wpAny M A (call (.builtin "object.__ne__") ([.ref x] ++ args) >>= fun v => pure (some v)) Q E s := wpAny_bind (wpAny_mono h (fun v s' h' => wpAny_pure h') fun _ _ h' => h')
  split
  · exact wpAny_bind (wpAny_of_eq (bind_ne _) (wpAny_pure (by exact fin)))
  · exact wpAny_tryCatch (wpAny_bind (wpAny_of_eq (bind_ne _) (wpAny_pure (by exact fin))))
/-- x != b, where x's class has object's __ne__: by its __eq__ -/
theorem ne_run {f : Addr} {Q : Value → Shared → Prop} (hu : A.units + 2 < cLine) (X : K.In s.heap) (I : InstAt s.heap x ox C od) (hb : Looks (model prog w) s.heap (typeOf b) tb) (hn : notFirst K C tb = true)
    (hne : findIn K (.ref C) "__ne__" = some (some (.builtin "object.__ne__"))) (hs : findIn K (.ref C) "__eq__" = some (some (.ref f))) (hf : isFn K (.ref f) = true) (hob : mroIn K C (.type "object") = some true)
    (h : wpAny (model prog w) A.in1 (call (.ref f) [.ref x, b]) (fun v s' => ∃ r, v = .bool r ∧ Q (.bool (!r)) s') (fun _ _ => False) s) : wpAny (model prog w) A (richCompare .NotEq (.ref x) b) Q E s := by
  have one : wpAny (model prog w) A (tryCompare (.ref x) "__ne__" b) (fun r s' => ∃ v, r = some v ∧ Q v s') E s := by
    unfold tryCompare
    refine wpAny_bind (ifBound_ne X I hne ?_)
    have sub : Looks (model prog w) s.heap (isInstance (.ref x) (.type "object")) true := I.type.andThen (looks_mroIn X hob)
    refine wpAny_call (codeAny_call_builtin PySem.F.slot_object_ne.plain PySem.F.entry_object_ne (@check_slot (model prog w) _ _ s "object.__ne__" "object" "__ne__" (.ref x) [b] [] _ (by decide +kernel) (by decide +kernel) sub (PySem.F.args_object_ne_2 _ _) ?_))
    unfold Builtin.«object.__ne__»
    refine wpAny_bind (wpAny_of_eq (a := (Value.ref x, [b])) (by first | rfl | kernel_rfl) ?_)
    dsimp only
    refine wpAny_bind (wpAny_cRoomFor (show A.in1.units < cLine from by show A.units + 1 < cLine; omega) ?_)
    refine wpAny_bind (ifBound_K X I hs hf (wpAny_mono h (fun v s' hv => ?_) fun _ _ z => z.elim))
    obtain ⟨r, rfl, q⟩ := hv
    dsimp only
    exact wpAny_bind (wpAny_truthy_bool (wpAny_pure (wpAny_pure ⟨_, rfl, q⟩)))
  unfold richCompare
  simp only [oneThing_ref]
  refine wpAny_holding (wpAny_bind (wpAny_cRoomFor (by omega) ?_))
  refine wpAny_bind (I.type.here (wpAny_bind (hb.here ?_)))
  have X' := X
  split
  · rename_i q
    have e : subIn K tb (.ref C) = some false := by
      rcases Bool.or_eq_true_iff.mp hn with e | e
      · rw [beq_iff_eq.mp e] at q; simp at q
      · exact beq_iff_eq.mp e
    refine wpAny_bind ((looks_subIn X e).here ?_)
    simp only [Bool.false_eq_true, if_false]
    refine wpAny_bind (wpAny_mono one (fun r s' z => ?_) fun _ _ e => e)
    obtain ⟨v, rfl, hq⟩ := z
    exact wpAny_pure hq
  · refine wpAny_bind (wpAny_pure ?_)
    simp only [Bool.false_eq_true, if_false]
    refine wpAny_bind (wpAny_mono one (fun r s' z => ?_) fun _ _ e => e)
    obtain ⟨v, rfl, hq⟩ := z
    exact wpAny_pure hq
end
section
variable {X : Cx} {K : PySem.W.Frag} {n : Nat} {f : Addr} {fd : FuncData} {ps : List Str} {sp : Sp}
theorem eqO_run {A : Around} (F : FnOk X.prog X.w X.K X.mg X.base CX0 n f fd ps sp) (hb : Binds X.K fd ps []) {pins : List (Addr × Obj)} {σ : L2.St} {H : Hp} {s : Shared} {a b : Addr} {Q : VK} (hr : Room n A) (hA : A.frames = X.A.frames) (I : Inv X pins σ H s)
    (h : sp [.ref a, .ref b] H Q E0) : codeAny (model X.prog X.w) A (.call (.ref f) ⟨[.ref a, .ref b], []⟩) (fun r s' => match r with | .ok (.ret v) => EP X pins σ Q v s' | _ => False) s := by
  have e0 : Env0 X.prog X.w X.K X.mg X.base A X.stack s H := by
    have e := I.env0
    exact ⟨by rw [hA]; exact e.frames, e.mod, e.bs, e.bsz, e.funs, e.frf, e.hok, e.bare⟩
  have hl := F.len _ _ _ _ h
  have r2 : Vals [V.ref a, V.ref b] [Value.ref a, Value.ref b] := .cons rfl (.cons rfl .nil)
  refine codeAny_mono (F.run A X.stack s H ⟨[.ref a, .ref b], []⟩ [.ref a, .ref b] [.ref a, .ref b] _ E0 hr e0 (by
    have := hb s [.ref a, .ref b] I.kIn (by simpa using hl)
    simpa using this) r2 h) fun r s' hq => ?_
  cases r with
  | error e => exact hq.elim
  | ok fl =>
    cases fl with
    | ret w => exact I.after hq
    | next => exact False.elim hq
    | brk => exact False.elim hq
    | cont => exact False.elim hq
theorem op_eqO (F : FnOk X.prog X.w X.K X.mg X.base CX0 n f fd ps sp) (hb : Binds X.K fd ps []) (hr : Room n X.A) (hK : X.K = K := by rfl) : OpR X (compareOp .Eq) (rEqO false K f sp) := by
  cases hK
  intro pins s σ H x y v u Q I rx ry h
  obtain ⟨a, b, C, dx, fs, D, dy, gs, rfl, rfl, ha, hb', k, hs⟩ := h
  cases rx
  cases ry
  obtain ⟨mA, J, _⟩ := ins_get I.hok ha
  obtain ⟨mB, J', _⟩ := ins_get I.hok hb'
  obtain ⟨od, J, _⟩ := J.look
  obtain ⟨od', J', _⟩ := J'.look
  obtain ⟨m, hF⟩ := I.fr
  show wpAny (model X.prog X.w) X.A (richCompare .Eq (.ref a) (.ref b)) (EP X pins σ Q) X.xe s
  refine PySem.W.cmp_K (op := .Eq) (tb := .ref D) hr.units0 hF I.ok.mod.kin J J'.type k.nf k.eq k.fn ?_
  refine wpAny_call (codeAny_mono (eqO_run F hb hr rfl I hs) fun r s' hq => ?_)
  cases r with
  | error e => exact hq.elim
  | ok fl =>
    cases fl with
    | ret w =>
      obtain ⟨z, H', I', rz, r, ez, q⟩ := hq
      subst ez
      obtain rfl : w = Value.bool r := rz
      exact ⟨.bl r, H', I', rfl, q⟩
    | next => exact hq.elim
    | brk => exact hq.elim
    | cont => exact hq.elim
theorem op_neO (F : FnOk X.prog X.w X.K X.mg X.base CX0 n f fd ps sp) (hb : Binds X.K fd ps []) (hr : Room (n + 1) X.A) (hK : X.K = K := by rfl) : OpR X (compareOp .NotEq) (rEqO true K f sp) := by
  cases hK
  intro pins s σ H x y v u Q I rx ry h
  obtain ⟨a, b, C, dx, fs, D, dy, gs, rfl, rfl, ha, hb', k, hs⟩ := h
  cases rx
  cases ry
  obtain ⟨mA, J, _⟩ := ins_get I.hok ha
  obtain ⟨mB, J', _⟩ := ins_get I.hok hb'
  obtain ⟨od, J, _⟩ := J.look
  obtain ⟨od', J', _⟩ := J'.look
  show wpAny (model X.prog X.w) X.A (richCompare .NotEq (.ref a) (.ref b)) (EP X pins σ Q) X.xe s
  refine ne_run (tb := .ref D) (by have := hr.un; omega) I.kIn J J'.type k.nf k.ne k.eq k.fn k.ob ?_
  refine wpAny_call (codeAny_mono (eqO_run (A := X.A.in1) F hb hr.in1 rfl I hs) fun r s' hq => ?_)
  cases r with
  | error e => exact hq.elim
  | ok fl =>
    cases fl with
    | ret w =>
      obtain ⟨z, H', I', rz, r, ez, q⟩ := hq
      subst ez
      obtain rfl : w = Value.bool r := rz
      exact ⟨r, rfl, .bl (!r), H', I', rfl, q⟩
    | next => exact hq.elim
    | brk => exact hq.elim
    | cont => exact hq.elim
end
/-! ### comparisons in a row, however many -/
section
variable {X : Cx} {a b : Expr} {ta tb : TE} {op op' : CmpOp} {ops : List CmpOp} {b' : Expr} {bs : List Expr} {r : R2} {pos : Pos} {t : V → TE} {t2 : V → TT}
structure PCh (X : Cx) (ops : List CmpOp) (rs : List Expr) (t : V → TE) (t2 : V → TT) : Prop where
  run : ∀ (pos : Pos) (pins : List (Addr × Obj)) (s : Shared) (σ : L2.St) (H : Hp) (x : V) (v : Value) (Q : VK), Inv X pins σ H s → RelV x v → t x σ H Q →
    wpAny (model X.prog X.w) X.A (compareChain pos v ops (evalEach rs X.env)) (EP X pins σ Q) X.xe s
  tst : ∀ (pos : Pos) (pins : List (Addr × Obj)) (s : Shared) (σ : L2.St) (H : Hp) (x : V) (v : Value) (Q : Bool → Hp → Prop), Inv X pins σ H s → RelV x v → t2 x σ H Q →
    wpAny (model X.prog X.w) X.A (testChain pos v ops (evalEach rs X.env)) (TP X pins σ Q) X.xe s
def tChL (r : R2) (tb : TE) (x : V) : TE := fun σ H Q => tb σ H fun y H2 => r x y H2 Q
def tChL2 (r : R2) (tb : TE) (x : V) : TT := fun σ H Q => tb σ H fun y H2 => r x y H2 fun z H3 => ∃ k, z = .bl k ∧ Q k H3
def tChC (r : R2) (tb : TE) (t : V → TE) (x : V) : TE := fun σ H Q => tb σ H fun y H2 => r x y H2 fun z H3 => ∃ k, z = .bl k ∧ if k = true then t y σ H3 Q else Q (.bl false) H3
def tChC2 (r : R2) (tb : TE) (t : V → TT) (x : V) : TT := fun σ H Q => tb σ H fun y H2 => r x y H2 fun z H3 => ∃ k, z = .bl k ∧ if k = true then t y σ H3 Q else Q false H3
theorem pch_last (ho : OpR X (compareOp op) r) (hb : PE X b tb) : PCh X [op] [b] (tChL r tb) (tChL2 r tb) := by
  refine ⟨fun pos pins s σ H x v Q I rx h => ?_, fun pos pins s σ H x v Q I rx h => ?_⟩
  · exact chain_last (thn (hb.run pins s σ H _ I h) fun u s2 ⟨y, H2, I2, r2, q2⟩ => ho pins s2 σ H2 x y v u Q I2 rx r2 q2)
  · refine test_last (thn (hb.run pins s σ H _ I h) fun u s2 ⟨y, H2, I2, r2, q2⟩ => thn (ho pins s2 σ H2 x y v u _ I2 rx r2 q2) fun d s3 ⟨z, H3, I3, r3, k, e, q3⟩ => ?_)
    subst e
    cases r3
    exact wpAny_truthy_bool ⟨H3, I3, q3⟩
theorem pch_cons (ho : OpR X (compareOp op) r) (hb : PE X b tb) (hr : PCh X (op' :: ops) (b' :: bs) t t2) : PCh X (op :: op' :: ops) (b :: b' :: bs) (tChC r tb t) (tChC2 r tb t2) := by
  refine ⟨fun pos pins s σ H x v Q I rx h => ?_, fun pos pins s σ H x v Q I rx h => ?_⟩
  · refine chain_link (thn (hb.run pins s σ H _ I h) fun u s2 ⟨y, H2, I2, r2, q2⟩ => thn (ho pins s2 σ H2 x y v u _ I2 rx r2 q2) fun d s3 ⟨z, H3, I3, r3, k, e, q3⟩ => ?_)
    subst e
    cases r3
    refine wpAny_truthy_bool ?_
    cases k with
    | false => exact ⟨.bl false, H3, I3, rfl, q3⟩
    | true => exact hr.run pos pins s3 σ H3 y u Q I3 r2 q3
  · refine test_link (thn (hb.run pins s σ H _ I h) fun u s2 ⟨y, H2, I2, r2, q2⟩ => thn (ho pins s2 σ H2 x y v u _ I2 rx r2 q2) fun d s3 ⟨z, H3, I3, r3, k, e, q3⟩ => ?_)
    subst e
    cases r3
    refine wpAny_truthy_bool ?_
    cases k with
    | false => exact ⟨H3, I3, q3⟩
    | true => exact hr.tst pos pins s3 σ H3 y u Q I3 r2 q3
def tCh (ta : TE) (t : V → TE) : TE := fun σ H Q => ta σ H fun x H1 => t x σ H1 Q
def tCh2 (ta : TE) (t : V → TT) : TT := fun σ H Q => ta σ H fun x H1 => t x σ H1 Q
theorem pe_chN (ha : PE X a ta) (h : PCh X (op :: op' :: ops) (b :: b' :: bs) t t2) (hm : lastMarks (op :: op' :: ops) (b :: b' :: bs) = false := by with_unfolding_all rfl) : PE X (.Compare a (op :: op' :: ops) (b :: b' :: bs) pos) (tCh ta t) := by
  refine ⟨fun pins s σ H Q I q => ?_⟩
  exact Compare_chain (thn (ha.run pins s σ H _ I q) fun v s1 ⟨x, H1, I1, r1, q1⟩ => h.run pos pins s1 σ H1 x v Q I1 r1 q1) hm
theorem pt_chN (ha : PE X a ta) (h : PCh X (op :: op' :: ops) (b :: b' :: bs) t t2) (hm : lastMarks (op :: op' :: ops) (b :: b' :: bs) = false := by with_unfolding_all rfl) : PT X (.Compare a (op :: op' :: ops) (b :: b' :: bs) pos) (tCh2 ta t2) := by
  refine ⟨fun pins s σ H Q I q => ?_⟩
  exact isTrue_chain (thn (ha.run pins s σ H _ I q) fun v s1 ⟨x, H1, I1, r1, q1⟩ => h.tst pos pins s1 σ H1 x v Q I1 r1 q1) hm
end
end HP
/-! own classes: what a class must have; starred defs; fixed values; papers -/
namespace HC
open PySem PySem.Spec PyProof.Rows L2 HX
/-! ### a def with a starred parameter, by what the text must have -/
structure StarFun (K : PySem.W.Frag) (x qual : Str) (st : Stmt) (f : Addr) (ps : List Str) (pv : Str) : Prop where
  ex : ∃ (oc : Value) (od : Option Addr) (dV kV doc pm : Value) (an : Option Addr) (cdv ct : Value) (osl : Array (Option Value)),
    K.lookup f = some ⟨oc, od, .func (PySem.W.fnOf x qual (defArgs st) (defBody st) (defScope st) dV kV doc pm an cdv ct), osl⟩ ∧ PySem.W.codeIn K cdv qual = true ∧
    ∀ us rest : List Value, us.length = ps.length → bindArgs (PySem.W.fnOf x qual (defArgs st) (defBody st) (defScope st) dV kV doc pm an cdv ct) ⟨us ++ rest, []⟩ = (newTuple rest >>= fun t => pure (ps.zip us ++ [(pv, t)]))
def starS (ps : List Str) (sp : Sp) : Sp := fun vs H Q E => ∃ ws rest, vs = ws ++ rest ∧ ws.length = ps.length ∧ rest.length ≤ sizeLine ∧ ∀ p, H p = Option.none → sp (ws ++ [V.ref p]) (upd H p (.tup rest)) Q E
section
variable {P : Program} {w : World} {K : PySem.W.Frag} {mg : Str → Option Value} {base : Heap}
theorem star_ok {x qual : Str} {st : Stmt} {f : Addr} {N ps : List Str} {pv : Str} {k : Nat} {sp : Sp} (F : StarFun K x qual st f ps pv) (S : FnScope N (ps ++ [pv]) (defScope st))
    (hbody : ∀ (cdv : Value) (A : Around) (outer : List Env) (s : Shared) (H : Hp) (vs : List V) (Q : VK) (E : XK), Room k (A.deeper (envOfC qual (defScope st) s.heap.objs.size f cdv)) → sp vs H Q E →
      ∃ t, PSs (cxOf CX0 P w K mg base N qual (defScope st) f cdv A outer s H E).nox (defBody st) t ∧ t { nx := fun _ H' => Q .non H', rt := Q } (start N vs) H) : FnR P w K mg base CX0 (k + 1) f (starS ps sp) := by
  obtain ⟨oc, od, dV, kV, doc, pm, an, cdv, ct, osl, lk, hcd, hb⟩ := F.ex
  refine StX.fn_star lk hcd S (StX.cxUp_none) hb fun A outer s H vs Q E hr hsp => ?_
  obtain ⟨t, h, q⟩ := hbody cdv A outer s H vs Q E hr hsp
  exact ⟨t, h.nox, q⟩
theorem FnOk.nil {CX : CXT} {f : Addr} {fd : FuncData} {ps : List Str} {k : Nat} : FnOk P w K mg base CX k f fd ps (fun _ _ _ _ => False) :=
  ⟨fun _ _ _ _ z => z.elim, fun _ _ _ _ _ _ _ _ _ _ _ _ _ z => z.elim⟩
end
/-! ### rules that name the written part -/
section
variable {X : Cx} {K : PySem.W.Frag} {o e value tg l : Expr} {f : Str} {pos pos' : Pos} {ta tv tl te : TE}
theorem pe_fldK (he : PE X e ta) (hb : attributeBase e f X.env (eval e X.env) = eval e X.env := by rfl) (hK : X.K = K := by rfl) : PE X (.Attribute e f pos) (tFld K ta f) := by cases hK; exact pe_fld he hb
theorem ps_fldK (ha : PE X o ta) (hv : PE X value tv) (hs : swapsWith value (some (.Attribute o f pos')) pos.line X.env = pure false := by rfl) (hK : X.K = K := by rfl) : PS X (.Assign [.Attribute o f pos'] value pos) (sFld K ta tv f) := by cases hK; exact ps_fld ha hv hs
theorem pe_revK {k : Nat} {p1 p2 p3 : Pos} (he : PE X e te) (hK : X.K = K := by rfl) : PE X (.Subscript e (.Slice none none (some (.UnaryOp .USub (.Constant (.int 1) k p1) p2)) p3) pos) (tRevL K te) := by cases hK; exact pe_revL he
theorem call_isiTK (hK : X.K = K := by rfl) : CallR X (.builtin "isinstance") (rIsiT K) := by cases hK; exact call_isiT
theorem cr_sortedK (hK : X.K = K := by rfl) : CallR X (.builtin "sorted") (rSorted K) := by cases hK; exact cr_sorted
/-- for over a list or a tuple -/
def iSeq (K : PySem.W.Frag) (tl : TE) : TI := fun σ H R => iList K tl σ H R ∨ iTup K tl σ H R
theorem pi_seqK (hl : PE X l tl) (hK : X.K = K := by rfl) : PI X tg l (iSeq K tl) := by
  cases hK
  exact ⟨fun pins s σ H R I h => h.elim (fun z => (pi_list hl).run pins s σ H R I z) (fun z => (pi_tup hl).run pins s σ H R I z)⟩
end
/-! ### steps of a walk -/
section
variable {K : PySem.W.Frag} {σ : L2.St} {H : Hp} {Q : VK}
theorem fld_ {ta : TE} {f : Str} (h : ta σ H fun x H1 => ∃ a C dx fs v, x = .ref a ∧ H1 a = some (.ins C dx fs) ∧ Cls K C ∧ NoAttr K C f ∧ fs.lookup f = some v ∧ Q v H1) : tFld K ta f σ H Q := h
theorem fldE_ {a C dx : Addr} {fs : List (Str × V)} {v : V} {f : Str} {P : V → Prop} (e : H a = some (.ins C dx fs)) (c : Cls K C) (n : NoAttr K C f) (l : fs.lookup f = some v) (q : P v) :
    ∃ a' C dx fs v, V.ref a = .ref a' ∧ H a' = some (.ins C dx fs) ∧ Cls K C ∧ NoAttr K C f ∧ fs.lookup f = some v ∧ P v := ⟨a, C, dx, fs, v, rfl, e, c, n, l, q⟩
theorem setf_ {ta tv : TE} {f : Str} {nx bk ct : L2.St → Hp → Prop} {rt : VK} (h : tv σ H fun y H1 => ta σ H1 fun x H2 => ∃ a C dx fs, x = .ref a ∧ H2 a = some (.ins C dx fs) ∧ Cls K C ∧ NoAttr K C f ∧ fs.length < 1000 ∧ nx σ (upd H2 a (.ins C dx (putF f y fs)))) : sFld K ta tv f ⟨nx, rt, bk, ct⟩ σ H := h
theorem setE_ {a C dx : Addr} {fs : List (Str × V)} {f : Str} {y : V} {R : Hp → Prop} (e : H a = some (.ins C dx fs)) (c : Cls K C) (n : NoAttr K C f) (l : Nat.ble fs.length 900 = true) (q : R (upd H a (.ins C dx (putF f y fs)))) :
    ∃ a' C dx fs, V.ref a = .ref a' ∧ H a' = some (.ins C dx fs) ∧ Cls K C ∧ NoAttr K C f ∧ fs.length < 1000 ∧ R (upd H a' (.ins C dx (putF f y fs))) := ⟨a, C, dx, fs, rfl, e, c, n, by have := Nat.le_of_ble_eq_true l; omega, q⟩
theorem rev_ {te : TE} (h : te σ H fun x H1 => ∃ a xs, x = .ref a ∧ SqL K H1 a xs ∧ ∀ p, H1 p = none → Q (.ref p) (upd H1 p (.lst xs.reverse))) : tRevL K te σ H Q := h
theorem isiT_ {x : V} {tp : Addr} {cs : List V} {t : Value} {us : List Value} {b : Bool} (e : H tp = some (.tup cs)) (p : Paired ClsV cs us) (ty : TyX K H x t) (k : PySem.W.kitAny K t us = some b) (q : Q (.bl b) H) : rIsiT K [x, .ref tp] H Q := ⟨x, tp, cs, t, us, b, rfl, e, p, ty, k, q⟩
theorem cls_ {ta : TE} (h : ta σ H fun x H1 => ∃ a C dx fs, x = .ref a ∧ H1 a = some (.ins C dx fs) ∧ HP.HasCls K C ∧ Q (.ref C) H1) : HP.tClass K ta σ H Q := h
theorem name_ {ta : TE} (h : ta σ H fun x H1 => ∃ C nm, x = .ref C ∧ HP.ClsNm K C nm ∧ Q (.str nm) H1) : HP.tName K ta σ H Q := h
end
theorem make_ {C : Addr} {sp : Sp} {E : XK} {t : TA} {σ : L2.St} {H : Hp} {Q : VK} (h : t σ H fun vs H1 => ∀ x dx, H1 x = Option.none → H1 dx = Option.none → dx ≠ x → sp (V.ref x :: vs) (upd (upd H1 dx (.own x)) x (.ins C dx [])) (fun v H2 => v = .non ∧ Q (.ref x) H2) E) : StX.tMakeR C sp E t σ H Q := h
/-- i if c else j -/
theorem joinB_ {c : Bool} {i j : Int} {σ : L2.St} {H : Hp} {Q : VK} (h : ∀ e : Int, (c = true ∧ e = i ∨ c = false ∧ e = j) → Q (.int e) H) : if c = true then tC (.int i) σ H Q else tC (.int j) σ H Q := by
  cases c with
  | true => exact h i (.inl ⟨rfl, rfl⟩)
  | false => exact h j (.inr ⟨rfl, rfl⟩)
/-- i if c else -j -/
theorem joinN_ {c : Bool} {i j : Int} {σ : L2.St} {H : Hp} {Q : VK} (h : ∀ e : Int, (c = true ∧ e = i ∨ c = false ∧ e = -j) → Q (.int e) H) : if c = true then tC (.int i) σ H Q else tUn (rU fun i => V.int (-i)) (tC (.int j)) σ H Q := by
  cases c with
  | true => exact h i (.inl ⟨rfl, rfl⟩)
  | false => exact ⟨j, rfl, h (-j) (.inr ⟨rfl, rfl⟩)⟩
def rBool1 : List V → Hp → VK → Prop := fun xs H Q => (∃ i, xs = [.int i] ∧ Q (.bl (i != 0)) H) ∨ ∃ k, xs = [.bl k] ∧ Q (.bl k) H
theorem call_boolU {X : Cx} : CallR X (.type "bool") rBool1 := call_bool1
theorem bool_bl_ {b : Bool} {H : Hp} {Q : VK} (q : Q (.bl b) H) : rBool1 [.bl b] H Q := .inr ⟨b, rfl, q⟩
theorem clsE_ {a C dx : Addr} {fs : List (Str × V)} {H : Hp} {K : PySem.W.Frag} {P : Addr → Prop} (e : H a = some (.ins C dx fs)) (c : HP.HasCls K C) (q : P C) : ∃ a' C dx fs, V.ref a = .ref a' ∧ H a' = some (.ins C dx fs) ∧ HP.HasCls K C ∧ P C := ⟨a, C, dx, fs, rfl, e, c, q⟩
theorem nameE_ {C : Addr} {nm : Str} {K : PySem.W.Frag} {P : Str → Prop} (c : HP.ClsNm K C nm) (q : P nm) : ∃ C' nm, V.ref C = .ref C' ∧ HP.ClsNm K C' nm ∧ P nm := ⟨C, nm, rfl, c, q⟩
theorem eqd_ {x y : V} {d e : PyData} {H : Hp} {K : PySem.W.Frag} {Q : VK} (h1 : Dp K H x d) (h2 : Dp K H y e) (s1 : SeqAt.shaped d = true) (s2 : SeqAt.shaped e = true) (q : Q (.bl (PyData.eqv d e)) H) : rEqU K x y H Q := .inr ⟨d, e, h1, h2, s1, s2, q⟩
theorem ned_ {x y : V} {d e : PyData} {H : Hp} {K : PySem.W.Frag} {Q : VK} (h1 : Dp K H x d) (h2 : Dp K H y e) (s1 : SeqAt.shaped d = true) (s2 : SeqAt.shaped e = true) (q : Q (.bl (!PyData.eqv d e)) H) : rNeU K x y H Q := .inr ⟨d, e, h1, h2, s1, s2, q⟩
/-! ### the answer of isinstance for two classes of a tuple -/
theorem kitAny_two {K : PySem.W.Frag} {t c d : Value} {a b : Bool} (h1 : PySem.W.kitOne K t c = some a) (h2 : PySem.W.kitOne K t d = some b) : PySem.W.kitAny K t [c, d] = some (a || b) := by
  unfold PySem.W.kitAny
  rw [h1]
  cases a with
  | true => rfl
  | false =>
    show PySem.W.kitAny K t [d] = _
    unfold PySem.W.kitAny
    rw [h2]
    cases b <;> rfl
/-! ### fixed values -/
/-- values nested at most n deep, none too long, no dicts -/
def okP : Nat → PyData → Bool
  | 0, .list _ => false
  | 0, .tuple _ => false
  | _, .dict _ => false
  | n + 1, .list xs => Nat.ble xs.length 100000 && xs.all (okP n)
  | n + 1, .tuple xs => Nat.ble xs.length 100000 && xs.all (okP n)
  | _, _ => true
/-- a tuple for each list, n deep -/
def fixP : Nat → PyData → PyData
  | n + 1, .list xs => .tuple (xs.map (fixP n))
  | n + 1, .tuple xs => .tuple (xs.map (fixP n))
  | _, d => d
theorem same_sql {K : PySem.W.Frag} {H H' : Hp} {c : Addr} {xs : List V} (x : Same H H') (h : SqL K H c xs) : SqL K H' c xs := by
  rcases h with (h | ⟨o, h⟩) | h
  · exact .inl (.inl (x _ _ h))
  · exact .inl (.inr ⟨o, x _ _ h⟩)
  · exact .inr h
mutual
theorem dp_same {K : PySem.W.Frag} {H H' : Hp} (e : Same H H') : ∀ {v : V} {d : PyData}, Dp K H v d → Dp K H' v d
  | _, _, .non => .non
  | _, _, .bl b => .bl b
  | _, _, .int i => .int i
  | _, _, .str x => .str x
  | _, _, .lst s a => .lst (same_sql e s) (dpAll_same e a)
  | _, _, .tup s a => .tup (HX.same_sqt e s) (dpAll_same e a)
theorem dpAll_same {K : PySem.W.Frag} {H H' : Hp} (e : Same H H') : ∀ {vs : List V} {ds : List PyData}, DpAll K H vs ds → DpAll K H' vs ds
  | _, _, .nil => .nil
  | _, _, .cons a b => .cons (dp_same e a) (dpAll_same e b)
end
theorem dpAll_len {K : PySem.W.Frag} {H : Hp} : ∀ {vs : List V} {ds : List PyData}, DpAll K H vs ds → vs.length = ds.length
  | _, _, .nil => rfl
  | _, _, .cons _ b => by rw [List.length_cons, List.length_cons, dpAll_len b]
theorem dpAll_at {K : PySem.W.Frag} {H : Hp} : ∀ {vs : List V} {ds : List PyData}, DpAll K H vs ds → ∀ {i : Nat} {v : V}, vs[i]? = some v → ∃ d, ds[i]? = some d ∧ Dp K H v d
  | _, _, .cons a _, 0, _, h => by cases h; exact ⟨_, rfl, a⟩
  | _, _, .cons _ b, i + 1, _, h => dpAll_at b (i := i) h
theorem dpAll_snoc {K : PySem.W.Frag} {H : Hp} : ∀ {vs : List V} {ds : List PyData} {v : V} {d : PyData}, DpAll K H vs ds → Dp K H v d → DpAll K H (vs ++ [v]) (ds ++ [d])
  | _, _, _, _, .nil, h => .cons h .nil
  | _, _, _, _, .cons a b, h => .cons a (dpAll_snoc b h)
theorem dpAll_ints {K : PySem.W.Frag} {H : Hp} (ns : List Int) : DpAll K H (ns.map V.int) (ns.map PyData.int) := by
  induction ns with
  | nil => exact .nil
  | cons n r ih => exact .cons (.int n) ih
mutual
/-- a value without lists -/
inductive Dt (K : PySem.W.Frag) (H : Hp) : V → PyData → Prop
  | non : Dt K H .non .none
  | bl (b : Bool) : Dt K H (.bl b) (.bool b)
  | int (i : Int) : Dt K H (.int i) (.int i)
  | str (x : Str) : Dt K H (.str x) (.str x)
  | tup {a : Addr} {xs : List V} {ds : List PyData} : SqT K H a xs → DtAll K H xs ds → Dt K H (.ref a) (.tuple ds)
inductive DtAll (K : PySem.W.Frag) (H : Hp) : List V → List PyData → Prop
  | nil : DtAll K H [] []
  | cons {v : V} {vs : List V} {d : PyData} {ds : List PyData} : Dt K H v d → DtAll K H vs ds → DtAll K H (v :: vs) (d :: ds)
end
mutual
theorem Dt.dp {K : PySem.W.Frag} {H : Hp} : ∀ {v : V} {d : PyData}, Dt K H v d → Dp K H v d
  | _, _, .non => .non
  | _, _, .bl b => .bl b
  | _, _, .int i => .int i
  | _, _, .str x => .str x
  | _, _, .tup s a => .tup s (DtAll.dp a)
theorem DtAll.dp {K : PySem.W.Frag} {H : Hp} : ∀ {vs : List V} {ds : List PyData}, DtAll K H vs ds → DpAll K H vs ds
  | _, _, .nil => .nil
  | _, _, .cons a b => .cons (Dt.dp a) (DtAll.dp b)
end
mutual
theorem dt_same {K : PySem.W.Frag} {H H' : Hp} (e : Same H H') : ∀ {v : V} {d : PyData}, Dt K H v d → Dt K H' v d
  | _, _, .non => .non
  | _, _, .bl b => .bl b
  | _, _, .int i => .int i
  | _, _, .str x => .str x
  | _, _, .tup s a => .tup (HX.same_sqt e s) (dtAll_same e a)
theorem dtAll_same {K : PySem.W.Frag} {H H' : Hp} (e : Same H H') : ∀ {vs : List V} {ds : List PyData}, DtAll K H vs ds → DtAll K H' vs ds
  | _, _, .nil => .nil
  | _, _, .cons a b => .cons (dt_same e a) (dtAll_same e b)
end
/-- nothing but tuples: what no tuple is may change -/
def NoTup (H : Hp) (D : Addr) : Prop := ∀ xs, ¬ Rd H D (.tup xs)
theorem noTup_lst {H : Hp} {D : Addr} {xs : List V} (h : H D = some (.lst xs)) : NoTup H D := fun ys z => by
  rcases z with z | ⟨o, z⟩ <;> rw [h] at z <;> cases z
theorem noTup_ins {H : Hp} {D C dx : Addr} {fs : List (Str × V)} (h : H D = some (.ins C dx fs)) : NoTup H D := fun ys z => by
  rcases z with z | ⟨o, z⟩ <;> rw [h] at z <;> cases z
theorem noTup_none {H : Hp} {D : Addr} (h : H D = none) : NoTup H D := fun ys z => by
  rcases z with z | ⟨o, z⟩ <;> rw [h] at z <;> cases z
theorem sqt_upd {K : PySem.W.Frag} {H : Hp} {D a : Addr} {o : HO} {xs : List V} (n : NoTup H D) (h : SqT K H a xs) : SqT K (upd H D o) a xs := by
  rcases h with h | h
  · have na : a ≠ D := fun e => n xs (e ▸ h)
    refine .inl ?_
    rcases h with h | ⟨u, h⟩
    · exact .inl (by rw [upd_ne na]; exact h)
    · exact .inr ⟨u, by rw [upd_ne na]; exact h⟩
  · exact .inr h
mutual
theorem dt_upd {K : PySem.W.Frag} {H : Hp} {D : Addr} {o : HO} (n : NoTup H D) : ∀ {v : V} {d : PyData}, Dt K H v d → Dt K (upd H D o) v d
  | _, _, .non => .non
  | _, _, .bl b => .bl b
  | _, _, .int i => .int i
  | _, _, .str x => .str x
  | _, _, .tup s a => .tup (sqt_upd n s) (dtAll_upd n a)
theorem dtAll_upd {K : PySem.W.Frag} {H : Hp} {D : Addr} {o : HO} (n : NoTup H D) : ∀ {vs : List V} {ds : List PyData}, DtAll K H vs ds → DtAll K (upd H D o) vs ds
  | _, _, .nil => .nil
  | _, _, .cons a b => .cons (dt_upd n a) (dtAll_upd n b)
end
theorem dtAll_snoc {K : PySem.W.Frag} {H : Hp} : ∀ {vs : List V} {ds : List PyData} {v : V} {d : PyData}, DtAll K H vs ds → Dt K H v d → DtAll K H (vs ++ [v]) (ds ++ [d])
  | _, _, _, _, .nil, h => .cons h .nil
  | _, _, _, _, .cons a b, h => .cons a (dtAll_snoc b h)
theorem dtAll_ints {K : PySem.W.Frag} {H : Hp} (ns : List Int) : DtAll K H (ns.map V.int) (ns.map PyData.int) := by
  induction ns with
  | nil => exact .nil
  | cons n r ih => exact .cons (.int n) ih
/-- neither a list nor a tuple stands there -/
def NoSq (H : Hp) (D : Addr) : Prop := (∀ xs, ¬ Rd H D (.tup xs)) ∧ ∀ xs, ¬ Rd H D (.lst xs)
theorem noSq_ins {H : Hp} {D C dx : Addr} {fs : List (Str × V)} (h : H D = some (.ins C dx fs)) : NoSq H D :=
  ⟨noTup_ins h, fun ys (z : Rd H D (.lst ys)) => by
    rcases z with z | ⟨o, z⟩ <;> rw [h] at z <;> cases z⟩
theorem sql_upd {K : PySem.W.Frag} {H : Hp} {D a : Addr} {o : HO} {xs : List V} (n : NoSq H D) (h : SqL K H a xs) : SqL K (upd H D o) a xs := by
  rcases h with h | h
  · have na : a ≠ D := fun e => n.2 xs (e ▸ h)
    refine .inl ?_
    rcases h with h | ⟨u, h⟩
    · exact .inl (by rw [upd_ne na]; exact h)
    · exact .inr ⟨u, by rw [upd_ne na]; exact h⟩
  · exact .inr h
mutual
theorem dp_upd {K : PySem.W.Frag} {H : Hp} {D : Addr} {o : HO} (n : NoSq H D) : ∀ {v : V} {d : PyData}, Dp K H v d → Dp K (upd H D o) v d
  | _, _, .non => .non
  | _, _, .bl b => .bl b
  | _, _, .int i => .int i
  | _, _, .str x => .str x
  | _, _, .lst s a => .lst (sql_upd n s) (dpAll_upd n a)
  | _, _, .tup s a => .tup (sqt_upd n.1 s) (dpAll_upd n a)
theorem dpAll_upd {K : PySem.W.Frag} {H : Hp} {D : Addr} {o : HO} (n : NoSq H D) : ∀ {vs : List V} {ds : List PyData}, DpAll K H vs ds → DpAll K (upd H D o) vs ds
  | _, _, .nil => .nil
  | _, _, .cons a b => .cons (dp_upd n a) (dpAll_upd n b)
end
/-- a comprehension over values, each made without lists by f -/
theorem lcD {K : PySem.W.Frag} {te : TE} {vs : List Nat} {σ : L2.St} {D a : Addr} {j : Nat} {H1 : Hp} {Qd : Hp → Prop} {xs : List V} {ds : List PyData} {J : It} (f : PyData → PyData) (hJ : (J = Itl K a ∧ SqL K H1 a xs) ∨ (J = Itt K a ∧ SqT K H1 a xs))
    (hA : DpAll K H1 xs ds) (hn : H1 D = none) (hl : Nat.ble xs.length 100000 = true) (hw : ∀ x, wipe ((wipe σ vs).set j (some x)) vs = wipe σ vs)
    (hs : ∀ (i : Nat) x d H' R, xs[i]? = some x → ds[i]? = some d → Dp K H' x d → (∀ y H4, Same H' H4 → Dt K H4 y (f d) → R y H4) → te ((wipe σ vs).set j (some x)) H' R)
    (hd : ∀ ys H', Same H1 H' → DtAll K H' ys (ds.map f) → H' D = some (.lst ys) → Qd H') : LcG J (gName j) tYes te vs σ D H1 Qd := by
  have hl2 := Nat.le_of_ble_eq_true hl
  have hln := dpAll_len hA
  have go : ∀ (i : Nat) x ys H, xs[i]? = some x → i < xs.length → ys.length = i → (Same H1 H ∧ DtAll K H ys ((ds.take i).map f)) → H D = some (.lst ys) → te ((wipe σ vs).set j (some x)) H (HX.LcK (fun i ys H => Same H1 H ∧ DtAll K H ys ((ds.take i).map f)) xs.length D i) := fun i x ys H hx hi hy ⟨e, a⟩ hD => by
    obtain ⟨d, hd1, hd2⟩ := dpAll_at (dpAll_same e hA) hx
    refine hs i x d H _ hx hd1 hd2 fun y H4 e4 hy4 => ?_
    have hD4 := e4 _ _ hD
    refine HX.lcK_ hD4 hy hi (by omega) ⟨HX.same_upd (e.trans e4) hn, ?_⟩
    have z := dtAll_snoc (dtAll_upd (o := .lst (ys ++ [y])) (noTup_lst hD4) (dtAll_same e4 a)) (dt_upd (o := .lst (ys ++ [y])) (noTup_lst hD4) hy4)
    have hi2 : i < ds.length := by omega
    have hg : ds[i]'hi2 = d := (List.getElem?_eq_some_iff.mp hd1).2
    rw [List.take_add_one, hd1, List.map_append]
    exact z
  rcases hJ with ⟨rfl, hS⟩ | ⟨rfl, hS⟩
  · refine HX.lcL (xs := xs) (fun i ys H => Same H1 H ∧ DtAll K H ys ((ds.take i).map f)) hw ⟨HX.same_new hn, .nil⟩ (fun i ys H p => same_sql p.1 hS) go fun ys H hy p hD => ?_
    refine hd ys H p.1 ?_ hD
    have z := p.2
    rw [hln, List.take_length] at z
    exact z
  · refine HX.lcT (xs := xs) (fun i ys H => Same H1 H ∧ DtAll K H ys ((ds.take i).map f)) hw ⟨HX.same_new hn, .nil⟩ (fun i ys H p => HX.same_sqt p.1 hS) go fun ys H hy p hD => ?_
    refine hd ys H p.1 ?_ hD
    have z := p.2
    rw [hln, List.take_length] at z
    exact z
/-- is it a list or a tuple -/
def isSeq : PyData → Bool
  | .list _ => true
  | .tuple _ => true
  | _ => false
theorem isLT {K : PySem.W.Frag} {H : Hp} {v : V} {d : PyData} (h : Dp K H v d) : ∃ t, TyX K H v t ∧ PySem.W.kitAny K t [.type "list", .type "tuple"] = some (isSeq d) := by
  cases h with
  | non => exact ⟨_, .base .non, kitAny_two (a := false) (b := false) (kit_ty (by decide +kernel)) (kit_ty (by decide +kernel))⟩
  | bl b => exact ⟨_, .base (.bl _), kitAny_two (a := false) (b := false) (kit_ty (by decide +kernel)) (kit_ty (by decide +kernel))⟩
  | int b => exact ⟨_, .base (.int _), kitAny_two (a := false) (b := false) (kit_ty (by decide +kernel)) (kit_ty (by decide +kernel))⟩
  | str b => exact ⟨_, .base (.str _), kitAny_two (a := false) (b := false) (kit_ty (by decide +kernel)) (kit_ty (by decide +kernel))⟩
  | lst s _ =>
    refine ⟨.type "list", ?_, kitAny_two (a := true) (b := false) (kit_ty (by decide +kernel)) (kit_ty (by decide +kernel))⟩
    rcases s with (s | ⟨o, s⟩) | ⟨o, its, n, e, c, _⟩
    · exact .base (.lst s)
    · exact .base (.frz s)
    · exact .kList e c
  | tup s _ =>
    refine ⟨.type "tuple", ?_, kitAny_two (a := false) (b := true) (kit_ty (by decide +kernel)) (kit_ty (by decide +kernel))⟩
    rcases s with (s | ⟨o, s⟩) | ⟨o, its, n, e, c, _⟩
    · exact .base (.tup s)
    · exact .fTuple s
    · exact .kTuple e c
theorem okP_list {n : Nat} {xs : List PyData} (h : okP n (.list xs) = true) : ∃ m, n = m + 1 ∧ Nat.ble xs.length 100000 = true ∧ ∀ x ∈ xs, okP m x = true := by
  cases n with
  | zero => simp [okP] at h
  | succ m => rw [okP, Bool.and_eq_true, List.all_eq_true] at h; exact ⟨m, rfl, h.1, h.2⟩
theorem okP_tuple {n : Nat} {xs : List PyData} (h : okP n (.tuple xs) = true) : ∃ m, n = m + 1 ∧ Nat.ble xs.length 100000 = true ∧ ∀ x ∈ xs, okP m x = true := by
  cases n with
  | zero => simp [okP] at h
  | succ m => rw [okP, Bool.and_eq_true, List.all_eq_true] at h; exact ⟨m, rfl, h.1, h.2⟩
theorem dt_leaf {K : PySem.W.Frag} {H : Hp} {v : V} {d : PyData} {n : Nat} (h : Dp K H v d) (l : isSeq d = false) : Dt K H v (fixP n d) := by
  cases h with
  | non => cases n <;> exact .non
  | bl b => cases n <;> exact .bl b
  | int b => cases n <;> exact .int b
  | str b => cases n <;> exact .str b
  | lst s _ => cases l
  | tup s _ => cases l
/-! ### papers -/
structure PC (K : PySem.W.Frag) (CP C : Addr) (nm : Str) : Prop where
  cl : Cls K C
  hc : HP.HasCls K C
  nm : HP.ClsNm K C nm
  word : NoAttr K C "word"
  parts : NoAttr K C "parts"
  isP : PySem.W.kitOne K (.ref C) (.ref CP) = some true
theorem PC.ty {K : PySem.W.Frag} {CP C : Addr} {nm : Str} (p : PC K CP C nm) {H : Hp} {a dx : Addr} {fs : List (Str × V)} (e : H a = some (.ins C dx fs)) : TyX K H (.ref a) (.ref C) :=
  .base (.ins e p.cl p.hc.at_ p.hc.sp p.hc.tk p.hc.ob)
/-- at a stands a paper of class C with its word, its parts and further fields -/
def Pap (K : PySem.W.Frag) (H : Hp) (a C : Addr) (w : Str) (d : PyData) (ex : List (Str × V)) : Prop := ∃ dx t, H a = some (.ins C dx (("word", .str w) :: ("parts", t) :: ex)) ∧ Dt K H t d
theorem Pap.same {K : PySem.W.Frag} {H H' : Hp} {a C : Addr} {w : Str} {d : PyData} {ex : List (Str × V)} (h : Pap K H a C w d ex) (e : Same H H') : Pap K H' a C w d ex := by
  obtain ⟨dx, t, h1, h2⟩ := h
  exact ⟨dx, t, e _ _ h1, dt_same e h2⟩
/-- what was made at a free place changes nothing else -/
theorem made {H H' : Hp} {x dx : Addr} {o o' : HO} (hx : H x = none) (hd : H dx = none) (k : Kept x (upd (upd H dx o) x o') H') : Same H H' := fun b u hb => by
  have n1 : b ≠ x := fun z => by rw [z, hx] at hb; cases hb
  have n2 : b ≠ dx := fun z => by rw [z, hd] at hb; cases hb
  exact k b u n1 (by rw [upd_ne n1, upd_ne n2]; exact hb)
theorem putF_word {w : V} : putF "word" w [] = [(("word" : Str), w)] := rfl
theorem putF_parts {w t : V} : putF "parts" t [(("word" : Str), w)] = [(("word" : Str), w), (("parts" : Str), t)] := by
  unfold putF
  rw [if_neg (by decide)]
  rfl
theorem putF_third {f : Str} {w t u : V} (h : ("word" : Str) ≠ f) (h2 : ("parts" : Str) ≠ f) : putF f u [(("word" : Str), w), (("parts" : Str), t)] = [(("word" : Str), w), (("parts" : Str), t), (f, u)] := by
  unfold putF
  rw [if_neg h]
  unfold putF
  rw [if_neg h2]
  rfl
theorem lk_word {w : V} {r : List (Str × V)} : List.lookup ("word" : Str) ((("word" : Str), w) :: r) = some w := rfl
theorem lk_parts {w t : V} {r : List (Str × V)} : List.lookup ("parts" : Str) ((("word" : Str), w) :: (("parts" : Str), t) :: r) = some t := by
  rw [List.lookup_cons, show (("parts" : Str) == ("word" : Str)) = false by decide]; rfl
theorem lk_third {f : Str} {w t u : V} {r : List (Str × V)} (h : (f == ("word" : Str)) = false) (h2 : (f == ("parts" : Str)) = false) : List.lookup f ((("word" : Str), w) :: (("parts" : Str), t) :: (f, u) :: r) = some u := by
  rw [List.lookup_cons, h, List.lookup_cons, h2, List.lookup_cons, beq_self_eq_true]
/-- a new instance, filled, is a thing that was not there -/
theorem Pap.upd {K : PySem.W.Frag} {H : Hp} {a C : Addr} {w : Str} {d : PyData} {ex : List (Str × V)} {D : Addr} {o : HO} (h : Pap K H a C w d ex) (n : a ≠ D) (nt : NoTup H D) : Pap K (L2.upd H D o) a C w d ex := by
  obtain ⟨dx, t, h1, h2⟩ := h
  exact ⟨dx, t, by rw [upd_ne n]; exact h1, dt_upd nt h2⟩
end HC
/-! the truth of an instance by an own __bool__ -/
namespace HB
open PySem PySem.Spec PyProof.Rows L2 HX
structure BoolCls (K : PySem.W.Frag) (C f : Addr) : Prop where
  at_ : PySem.W.findIn K (.ref C) "__bool__" = some (some (.ref f))
  fn : PySem.W.isFn K (.ref f) = true
def rTruO (K : PySem.W.Frag) (g : Addr → Option (Addr × Bool)) : V → Hp → (Bool → Hp → Prop) → Prop := fun x H Q => ∃ a C dx fs f b, x = .ref a ∧ H a = some (.ins C dx fs) ∧ g C = some (f, b) ∧ BoolCls K C f ∧ Q b H
/-- __bool__ tells b, whatever stands there -/
def spB (b : Bool) : Sp := fun vs H Q _ => ∃ a, vs = [.ref a] ∧ Q (.bl b) H
section
variable {X : Cx} {K : PySem.W.Frag} {n : Nat} {f : Addr} {fd : FuncData} {ps : List Str} {b : Bool}
def rTruB (K : PySem.W.Frag) (f : Addr) (b : Bool) : V → Hp → (Bool → Hp → Prop) → Prop := fun x H Q => ∃ a C dx fs, x = .ref a ∧ H a = some (.ins C dx fs) ∧ BoolCls K C f ∧ Q b H
theorem tru_own (F : FnOk X.prog X.w X.K X.mg X.base CX0 n f fd ps (spB b)) (hb : Binds X.K fd ps []) (hr : Room n X.A) (hK : X.K = K := by rfl) : TruR X (rTruB K f b) := by
  cases hK
  intro pins s σ H x v Q I rx h
  obtain ⟨a, C, dx, fs, rfl, ha, k, q⟩ := h
  cases rx
  obtain ⟨mA, J, _⟩ := ins_get I.hok ha
  obtain ⟨od, J, _⟩ := J.look
  obtain ⟨m, hF⟩ := I.fr
  refine PySem.W.truthy_K hF I.ok.mod.kin J k.at_ k.fn ?_
  have hl : 1 = ps.length := F.len [.ref a] H (fun _ _ => True) E0 ⟨a, rfl, True.intro⟩
  have r2 : Vals [V.ref a] [Value.ref a] := .cons rfl .nil
  refine wpAny_call (codeAny_mono (F.run X.A X.stack s H ⟨[.ref a], []⟩ [.ref a] [.ref a] (fun v H' => v = .bl b ∧ Q b H') E0 hr I.env0 (by
    have := hb s [.ref a] I.kIn (by simpa using hl)
    simpa using this) r2 ⟨a, rfl, rfl, q⟩) fun r s' hq => ?_)
  cases r with
  | error e => exact hq.elim
  | ok fl =>
    cases fl with
    | ret w =>
      obtain ⟨v, H', I', rv, ev, qq⟩ := I.after hq
      subst ev
      obtain rfl : w = Value.bool b := rv
      exact ⟨H', I', qq⟩
    | next => exact hq.elim
    | brk => exact hq.elim
    | cont => exact hq.elim
theorem TruR.or {r r' : V → Hp → (Bool → Hp → Prop) → Prop} (h : TruR X r) (h' : TruR X r') : TruR X (fun x H Q => r x H Q ∨ r' x H Q) := fun pins s σ H x v Q I rx q => q.elim (h pins s σ H x v Q I rx) (h' pins s σ H x v Q I rx)
end
/-! ### a call by names alone -/
section
variable {X : Cx} {CX : CXT} {k : Nat} {f : Addr} {fd : FuncData} {ps ks : List Str} {sp : Sp} {E : XK} {x : Str} {kws : List Keyword} {tk : TA} {p pos : Pos} {g : List Value → List Value → List Value} {gV : List V → List V → List V}
def tCallN0 (sp : Sp) (gV : List V → List V → List V) (E : XK) (tk : TA) : TE := fun σ H Q => tk σ H fun zs H2 => sp (gV [] zs) H2 Q E
theorem pe_callK0 (F : FnOk X.prog X.w X.K X.mg X.base CX k f fd ps sp) (hr : Room k X.A) (hg : Gl X x) (hm : X.mg x = some (.ref f)) (hk : PySem.W.keepIn X.K (.ref f) = true) (hb : KBinds X.K fd ps ks g gV) (hx : Passes CX X E) (hkw : PK X kws tk)
    (hall : (backToKw pos (keywordEach kws X.env)).all (·.1.isSome) = true := by rfl) (hks : (backToKw pos (keywordEach kws X.env)).filterMap (·.1) = ks := by rfl) (hdb : (x == ("__debug__" : Str)) = false := by decide)
    (hpl : ((backTo pos (starEach [] X.env)).any (·.1) || (backToKw pos (keywordEach kws X.env)).any (·.1.isNone)) = false := by rfl) :
    PE X (.Call (.Name x p) [] kws pos) (tCallN0 sp gV E tk) := by
  refine ⟨fun pins s σ H Q I h => ?_⟩
  refine wpAny_Call_Name_kw (ld_glob I hg hm ?_ hdb)
  refine PySem.W.callWith_KW0 (h₀ := X.base) I.ok.mod.kin hk hall ?_ hpl
  refine thn (hkw.run pos pins s σ H _ I h) fun ws s2 ⟨zs, H2, I2, rz, q2⟩ => ⟨I2.kIn, ?_⟩
  rw [hks]
  exact run_fnk (us := []) (vs := []) F hr hb hx I2 .nil rz q2
end
/-- names for four parameters, in any order, no positions -/
def perm (idx : List Nat) {α : Type} (d : α) (us ws : List α) : List α := if us.length = 0 ∧ ws.length = idx.length then idx.map fun i => ws.getD i d else []
theorem kb_mk {K : PySem.W.Frag} {fd : FuncData} {ps ks : List Str} {idx : List Nat} (hp : (ps.length == 0) = false) (h : ∀ ws : List Value, ws.length = idx.length → bindArgs fd ⟨[], ks.zip ws⟩ = pure (ps.zip (idx.map fun i => ws.getD i .none)))
    (hr : ∀ {vs zs : List V} {us ws : List Value}, Vals vs us → Vals zs ws → Vals (perm idx .non vs zs) (perm idx .none us ws)) : KBinds K fd ps ks (perm idx .none) (perm idx .non) := by
  refine ⟨fun s us ws _ hl => ?_, hr⟩
  unfold perm at hl ⊢
  by_cases z : us.length = 0 ∧ ws.length = idx.length
  · rw [if_pos z]
    obtain rfl : us = [] := List.length_eq_zero_iff.mp z.1
    exact .of_eq (h ws z.2)
  · rw [if_neg z] at hl
    have : ps.length = 0 := hl.symm
    rw [this] at hp
    cases hp
theorem getD_rel {vs : List V} {us : List Value} (r : Vals vs us) : ∀ i, RelV (vs.getD i .non) (us.getD i .none) := by
  intro i
  induction r generalizing i with
  | nil => exact rfl
  | cons h t ih =>
    cases i with
    | zero => exact h
    | succ i => exact ih i
theorem perm_rel {idx : List Nat} {vs zs : List V} {us ws : List Value} (r : Vals vs us) (rz : Vals zs ws) : Vals (perm idx .non vs zs) (perm idx .none us ws) := by
  unfold perm
  rw [r.length, rz.length]
  by_cases h : us.length = 0 ∧ ws.length = idx.length
  · rw [if_pos h, if_pos h]
    clear h
    induction idx with
    | nil => exact .nil
    | cons i t ih => exact .cons (getD_rel rz i) ih
  · rw [if_neg h, if_neg h]
    exact .nil
/-! ### lists of ints compared -/
theorem eqvAll_ints : ∀ ns ms : List Int, PyData.eqvAll (ns.map PyData.int) (ms.map PyData.int) = decide (ns = ms)
  | [], [] => by simp [PyData.eqvAll]
  | [], m :: ms => by simp [PyData.eqvAll]
  | n :: ns, [] => by simp [PyData.eqvAll]
  | n :: ns, m :: ms => by
    have ih := eqvAll_ints ns ms
    simp only [List.map_cons, PyData.eqvAll, ih, PyData.eqv]
    by_cases h : n = m
    · subst h
      simp
    · simp [h]
theorem eqv_ints (ns ms : List Int) : PyData.eqv (.list (ns.map PyData.int)) (.list (ms.map PyData.int)) = decide (ns = ms) := by
  simp only [PyData.eqv]
  exact eqvAll_ints ns ms
theorem eqI_ {K : PySem.W.Frag} {H : Hp} {Q : VK} {c e : Addr} {ns ms : List Int} (hc : SqL K H c (ns.map V.int)) (he : SqL K H e (ms.map V.int)) (h : Q (.bl (decide (ns = ms))) H) : rEqU K (.ref c) (.ref e) H Q :=
  HC.eqd_ (.lst hc (HC.dpAll_ints ns)) (.lst he (HC.dpAll_ints ms)) (PySem.W.shaped_ints ns) (PySem.W.shaped_ints ms) (by rw [eqv_ints]; exact h)
theorem neI_ {K : PySem.W.Frag} {H : Hp} {Q : VK} {c e : Addr} {ns ms : List Int} (hc : SqL K H c (ns.map V.int)) (he : SqL K H e (ms.map V.int)) (h : Q (.bl (!decide (ns = ms))) H) : rNeU K (.ref c) (.ref e) H Q :=
  HC.ned_ (.lst hc (HC.dpAll_ints ns)) (.lst he (HC.dpAll_ints ms)) (PySem.W.shaped_ints ns) (PySem.W.shaped_ints ms) (by rw [eqv_ints]; exact h)
end HB
/-! sums of powers: once not below nothing, then above -/
namespace THR
/-- p x^(p+1) + y^(p+1) - (p+1) y x^p -/
def E (p : Nat) (x y : Int) : Int := (p : Int) * x ^ (p + 1) + y ^ (p + 1) - ((p : Int) + 1) * (y * x ^ p)
theorem E_succ (p : Nat) (x y : Int) : E (p + 1) x y = y * E p x y + ((p : Int) + 1) * (x ^ p * ((x - y) * (x - y))) := by
  unfold E
  have h1 : x ^ (p + 1 + 1) = x ^ p * (x * x) := by rw [Int.pow_succ, Int.pow_succ, Int.mul_assoc]
  have h2 : x ^ (p + 1) = x ^ p * x := Int.pow_succ ..
  have h3 : y ^ (p + 1 + 1) = y * y ^ (p + 1) := by rw [Int.pow_succ, Int.mul_comm]
  rw [h1, h2, h3]
  generalize x ^ p = u
  generalize y ^ (p + 1) = v
  have e0 : ((p + 1 : Nat) : Int) = (p : Int) + 1 := by omega
  rw [e0]
  generalize (p : Int) = q
  simp only [Int.mul_sub, Int.sub_mul, Int.mul_add, Int.add_mul, Int.one_mul, Int.mul_one]
  have a1 : y * (q * (u * x)) = q * (y * (u * x)) := by ac_rfl
  have a2 : y * (q * (y * u)) = q * (u * (y * y)) := by ac_rfl
  have a3 : y * (y * u) = u * (y * y) := by ac_rfl
  have a4 : u * (y * x) = y * (u * x) := by ac_rfl
  have a5 : u * (x * y) = y * (u * x) := by ac_rfl
  have a6 : q * (u * (y * x)) = q * (y * (u * x)) := by ac_rfl
  have a7 : q * (u * (x * y)) = q * (y * (u * x)) := by ac_rfl
  rw [a1, a2, a3] 
  try rw [a4]
  try rw [a5]
  try rw [a6]
  try rw [a7]
  omega
theorem sq_pos {x y : Int} (h : x ≠ y) : 0 < (x - y) * (x - y) := by
  rcases Int.lt_or_gt_of_ne h with z | z
  · exact Int.mul_pos_of_neg_of_neg (by omega) (by omega)
  · exact Int.mul_pos (by omega) (by omega)
theorem E_pos {x y : Int} (hx : 0 < x) (hy : 0 < y) (h : x ≠ y) : ∀ p : Nat, 0 < E (p + 1) x y
  | 0 => by
    rw [E_succ]
    have e : E 0 x y = 0 := by
      unfold E
      have h1 : x ^ 0 = 1 := Int.pow_zero _
      have h2 : y ^ (0 + 1) = y := by rw [Int.pow_succ, Int.pow_zero, Int.one_mul]
      rw [h1, h2]
      simp
    rw [e]
    have := sq_pos h
    simp
    exact this
  | p + 1 => by
    rw [E_succ]
    have e1 := Int.mul_pos hy (E_pos hx hy h p)
    have e2 : 0 < ((p + 1 : Nat) : Int) + 1 := by omega
    have e3 := Int.mul_pos e2 (Int.mul_pos (Int.pow_pos (m := p + 1) hx) (sq_pos h))
    omega
/-- once the sum at p is not below nothing, the next one is above -/
theorem grows {a b c d : Int} (h1 : 0 < a) (h2 : a < b) (h3 : b ≤ c) (h4 : c < d) (p : Nat) (h : 0 ≤ a ^ (p + 1) + d ^ (p + 1) - b ^ (p + 1) - c ^ (p + 1)) : 0 < a ^ (p + 1 + 1) + d ^ (p + 1 + 1) - b ^ (p + 1 + 1) - c ^ (p + 1 + 1) := by
  have e1 := E_pos (x := d) (y := c) (by omega) (by omega) (by omega) p
  have e2 := E_pos (x := a) (y := b) (by omega) (by omega) (by omega) p
  unfold E at e1 e2
  have hq : (((p + 1 : Nat) : Int)) = (p : Int) + 1 := by omega
  rw [hq] at e1 e2
  have hb : b ^ (p + 1 + 1) = b * b ^ (p + 1) := by rw [Int.pow_succ, Int.mul_comm]
  have hc : c ^ (p + 1 + 1) = c * c ^ (p + 1) := by rw [Int.pow_succ, Int.mul_comm]
  have hD : 0 < b ^ (p + 1) - a ^ (p + 1) := by
    have : a ^ (p + 1) < b ^ (p + 1) := by
      obtain ⟨m, rfl⟩ := Int.eq_ofNat_of_zero_le (show 0 ≤ a by omega)
      obtain ⟨n, rfl⟩ := Int.eq_ofNat_of_zero_le (show 0 ≤ b by omega)
      have := Nat.pow_lt_pow_left (show m < n by omega) (show p + 1 ≠ 0 by omega)
      have e3 : ((m ^ (p + 1) : Nat) : Int) < ((n ^ (p + 1) : Nat) : Int) := by omega
      rw [Int.natCast_pow, Int.natCast_pow] at e3
      exact e3
    omega
  rw [hb] at e2
  rw [hc] at e1
  rw [hb, hc]
  have hq0 : 0 < (p : Int) + 1 := by omega
  generalize (p : Int) + 1 = q at e1 e2 hq0
  generalize a ^ (p + 1 + 1) = A2 at *
  generalize d ^ (p + 1 + 1) = D2 at *
  generalize a ^ (p + 1) = A at *
  generalize b ^ (p + 1) = B at *
  generalize c ^ (p + 1) = C at *
  generalize d ^ (p + 1) = D at *
  -- q (D2 - c C) > (q+1) c (D - C) >= (q+1) b (B - A) > q (b B - A2)
  have s1 : (q + 1) * (c * (D - C)) ≥ (q + 1) * (b * (B - A)) := by
    refine Int.mul_le_mul_of_nonneg_left ?_ (by omega)
    have t1 : b * (B - A) ≤ c * (B - A) := Int.mul_le_mul_of_nonneg_right h3 (by omega)
    have t2 : c * (B - A) ≤ c * (D - C) := Int.mul_le_mul_of_nonneg_left (by omega) (by omega)
    omega
  have s2 : 0 < q * (A2 + D2 - b * B - c * C) := by
    simp only [Int.mul_sub, Int.mul_add, Int.add_mul, Int.one_mul] at s1 e1 e2 ⊢
    omega
  rcases Int.lt_or_le 0 (A2 + D2 - b * B - c * C) with z | z
  · exact z
  · have := Int.mul_le_mul_of_nonneg_left z (show 0 ≤ q by omega)
    rw [Int.mul_zero] at this
    omega
end THR
/-! the walk on data: slots hold data, lists of one's own among them; no heap in sight -/
namespace HD
open PySem PySem.Spec PyProof.Rows L2 HX
inductive D where
  | non | bl (b : Bool) | int (i : Int) | str (x : Str) | ty (n : String) | glo (a : Addr) | hat
  | tup (xs : List D) | lst (xs : List D) | ins (C : Addr) (fs : List (Str × D))
def TsM (K : PySem.W.Frag) (M : Addr → Prop) (H : Hp) (a : Addr) (vs : List V) : Prop := (¬ M a ∧ H a = some (.tup vs)) ∨ SqT K (fun _ => none) a vs
mutual
/-- v stands for d; no changing thing in it -/
inductive R (K : PySem.W.Frag) (g : Addr) (M : Addr → Prop) (H : Hp) : V → D → Prop
  | non : R K g M H .non .non
  | bl (b : Bool) : R K g M H (.bl b) (.bl b)
  | int (i : Int) : R K g M H (.int i) (.int i)
  | str (x : Str) : R K g M H (.str x) (.str x)
  | ty (n : String) : R K g M H (.ty n) (.ty n)
  | glo (a : Addr) : R K g M H (.ref a) (.glo a)
  | hat : R K g M H (.ref g) .hat
  | lst {a : Addr} {vs : List V} {xs : List D} : ¬ M a → H a = some (.lst vs) → RA K g M H vs xs → R K g M H (.ref a) (.lst xs)
  | tup {a : Addr} {vs : List V} {xs : List D} : TsM K M H a vs → RA K g M H vs xs → R K g M H (.ref a) (.tup xs)
  | ins {a C dx : Addr} {fv : List (Str × V)} {fs : List (Str × D)} : ¬ M a → H a = some (.ins C dx fv) → RF K g M H fv fs → R K g M H (.ref a) (.ins C fs)
inductive RA (K : PySem.W.Frag) (g : Addr) (M : Addr → Prop) (H : Hp) : List V → List D → Prop
  | nil : RA K g M H [] []
  | cons {v : V} {vs : List V} {d : D} {ds : List D} : R K g M H v d → RA K g M H vs ds → RA K g M H (v :: vs) (d :: ds)
inductive RF (K : PySem.W.Frag) (g : Addr) (M : Addr → Prop) (H : Hp) : List (Str × V) → List (Str × D) → Prop
  | nil : RF K g M H [] []
  | cons {f : Str} {v : V} {vs : List (Str × V)} {d : D} {ds : List (Str × D)} : R K g M H v d → RF K g M H vs ds → RF K g M H ((f, v) :: vs) ((f, d) :: ds)
end
/-- what is allocated beside M stays, and stands beside M' -/
def Mv (M M' : Addr → Prop) (H H' : Hp) : Prop := ∀ a o, ¬ M a → H a = some o → ¬ M' a ∧ H' a = some o
section
variable {K : PySem.W.Frag} {g : Addr} {M M' : Addr → Prop} {H H' : Hp}
theorem TsM.mv (m : Mv M M' H H') {a : Addr} {vs : List V} (h : TsM K M H a vs) : TsM K M' H' a vs := h.elim (fun z => .inl (m a _ z.1 z.2)) .inr
theorem TsM.sqt {a : Addr} {vs : List V} (h : TsM K M H a vs) : SqT K H a vs := by
  rcases h with h | h
  · exact .inl (.inl h.2)
  · rcases h with (h | ⟨o, h⟩) | h
    · cases h
    · cases h
    · exact .inr h
mutual
theorem R.mv (m : Mv M M' H H') : ∀ {v : V} {d : D}, R K g M H v d → R K g M' H' v d
  | _, _, .non => .non
  | _, _, .bl b => .bl b
  | _, _, .int b => .int b
  | _, _, .str b => .str b
  | _, _, .ty b => .ty b
  | _, _, .glo b => .glo b
  | _, _, .hat => .hat
  | _, _, .lst n e a => .lst (m _ _ n e).1 (m _ _ n e).2 (RA.mv m a)
  | _, _, .tup s a => .tup (s.mv m) (RA.mv m a)
  | _, _, .ins n e a => .ins (m _ _ n e).1 (m _ _ n e).2 (RF.mv m a)
theorem RA.mv (m : Mv M M' H H') : ∀ {v : List V} {d : List D}, RA K g M H v d → RA K g M' H' v d
  | _, _, .nil => .nil
  | _, _, .cons a b => .cons (R.mv m a) (RA.mv m b)
theorem RF.mv (m : Mv M M' H H') : ∀ {v : List (Str × V)} {d : List (Str × D)}, RF K g M H v d → RF K g M' H' v d
  | _, _, .nil => .nil
  | _, _, .cons a b => .cons (R.mv m a) (RF.mv m b)
end
theorem RA.len : ∀ {vs : List V} {ds : List D}, RA K g M H vs ds → vs.length = ds.length
  | _, _, .nil => rfl
  | _, _, .cons _ b => by rw [List.length_cons, List.length_cons, RA.len b]
theorem RA.at : ∀ {vs : List V} {ds : List D} {i : Nat} {d : D}, RA K g M H vs ds → ds[i]? = some d → ∃ v, vs[i]? = some v ∧ R K g M H v d
  | _, _, _, _, .nil, e => by cases e
  | _, _, 0, _, .cons a _, e => by cases e; exact ⟨_, rfl, a⟩
  | _, _, i + 1, _, .cons _ b, e => RA.at (i := i) b e
theorem RA.atV : ∀ {vs : List V} {ds : List D} {i : Nat} {v : V}, RA K g M H vs ds → vs[i]? = some v → ∃ d, ds[i]? = some d ∧ R K g M H v d
  | _, _, _, _, .nil, e => by cases e
  | _, _, 0, _, .cons a _, e => by cases e; exact ⟨_, rfl, a⟩
  | _, _, i + 1, _, .cons _ b, e => RA.atV (i := i) b e
theorem RA.append : ∀ {vs ws : List V} {ds es : List D}, RA K g M H vs ds → RA K g M H ws es → RA K g M H (vs ++ ws) (ds ++ es)
  | _, _, _, _, .nil, h => h
  | _, _, _, _, .cons a b, h => .cons a (RA.append b h)
theorem RA.take : ∀ {vs : List V} {ds : List D} (n : Nat), RA K g M H vs ds → RA K g M H (vs.take n) (ds.take n)
  | _, _, 0, _ => .nil
  | _, _, _ + 1, .nil => .nil
  | _, _, n + 1, .cons a b => .cons a (RA.take n b)
theorem RA.drop : ∀ {vs : List V} {ds : List D} (n : Nat), RA K g M H vs ds → RA K g M H (vs.drop n) (ds.drop n)
  | _, _, 0, h => h
  | _, _, _ + 1, .nil => .nil
  | _, _, n + 1, .cons _ b => RA.drop n b
theorem RA.reverse : ∀ {vs : List V} {ds : List D}, RA K g M H vs ds → RA K g M H vs.reverse ds.reverse
  | _, _, .nil => .nil
  | _, _, .cons a b => by rw [List.reverse_cons, List.reverse_cons]; exact RA.append (RA.reverse b) (.cons a .nil)
theorem RA.set : ∀ {vs : List V} {ds : List D} {v : V} {d : D} (i : Nat), RA K g M H vs ds → R K g M H v d → RA K g M H (vs.set i v) (ds.set i d)
  | _, _, _, _, _, .nil, _ => .nil
  | _, _, _, _, 0, .cons _ b, h => .cons h b
  | _, _, _, _, i + 1, .cons a b, h => .cons a (RA.set i b h)
theorem RA.dropLast {vs : List V} {ds : List D} (h : RA K g M H vs ds) : RA K g M H vs.dropLast ds.dropLast := by
  rw [List.dropLast_eq_take, List.dropLast_eq_take, h.len]
  exact h.take _
theorem RA.atI {vs : List V} {ds : List D} {i : Int} {d : D} (h : RA K g M H vs ds) (e : atI ds i = some d) : ∃ v, L2.atI vs i = some v ∧ R K g M H v d := by
  unfold L2.atI at e ⊢
  rw [h.len]
  cases z : ixN ds.length i with
  | none => rw [z] at e; cases e
  | some j =>
    rw [z] at e
    exact h.at e
theorem RA.ints : ∀ {vs : List V} {is : List Int}, RA K g M H vs (is.map D.int) → vs = is.map V.int
  | _, [], h => by cases h; rfl
  | _, i :: is, h => by
    cases h with
    | cons a b => cases a; rw [RA.ints b]; rfl
theorem RA.ofInts : ∀ (is : List Int), RA K g M H (is.map V.int) (is.map D.int)
  | [] => .nil
  | i :: is => .cons (.int i) (RA.ofInts is)
theorem RA.strs : ∀ {vs : List V} {is : List Str}, RA K g M H vs (is.map D.str) → vs = is.map V.str
  | _, [], h => by cases h; rfl
  | _, i :: is, h => by
    cases h with
    | cons a b => cases a; rw [RA.strs b]; rfl
theorem RA.ofStrs : ∀ (is : List Str), RA K g M H (is.map V.str) (is.map D.str)
  | [] => .nil
  | i :: is => .cons (.str i) (RA.ofStrs is)
theorem RA.bls : ∀ {vs : List V} {is : List Bool}, RA K g M H vs (is.map D.bl) → vs = is.map V.bl
  | _, [], h => by cases h; rfl
  | _, i :: is, h => by
    cases h with
    | cons a b => cases a; rw [RA.bls b]; rfl
theorem RF.at : ∀ {fv : List (Str × V)} {fs : List (Str × D)} {f : Str} {d : D}, RF K g M H fv fs → fs.lookup f = some d → ∃ v, fv.lookup f = some v ∧ R K g M H v d
  | _, _, _, _, .nil, e => by cases e
  | _, _, f, _, .cons (f := x) a b, e => by
    rw [List.lookup_cons] at e ⊢
    cases z : f == x with
    | true => rw [z] at e; cases e; exact ⟨_, rfl, a⟩
    | false => rw [z] at e; exact RF.at b e
end
/-- a thing of one's own at a -/
def RO (K : PySem.W.Frag) (g : Addr) (M : Addr → Prop) (H : Hp) (a : Addr) : D → Prop
  | .lst xs => ∃ vs, H a = some (.lst vs) ∧ RA K g M H vs xs
  | .ins C fs => ∃ dx fv, H a = some (.ins C dx fv) ∧ RF K g M H fv fs
  | _ => False
section
variable {K : PySem.W.Frag} {g : Addr} {M M' : Addr → Prop} {H H' : Hp} {a : Addr} {d : D}
theorem RO.at (h : RO K g M H a d) : ∃ o, H a = some o := by
  cases d <;> first | exact h.elim | skip
  · obtain ⟨_, h, _⟩ := h; exact ⟨_, h⟩
  · obtain ⟨_, _, h, _⟩ := h; exact ⟨_, h⟩
theorem RO.mv (m : Mv M M' H H') (k : ∀ o, H a = some o → H' a = some o) (h : RO K g M H a d) : RO K g M' H' a d := by
  cases d <;> first | exact h.elim | skip
  · obtain ⟨_, h, r⟩ := h; exact ⟨_, k _ h, r.mv m⟩
  · obtain ⟨_, _, h, r⟩ := h; exact ⟨_, _, k _ h, r.mv m⟩
theorem RO.r (h : RO K g M H a d) (n : ¬ M a) : R K g M H (.ref a) d := by
  cases d <;> first | exact h.elim | skip
  · obtain ⟨_, h, r⟩ := h; exact .lst n h r
  · obtain ⟨_, _, h, r⟩ := h; exact .ins n h r
end
/-! ### slots and pending items -/
inductive S where
  | un | v (d : D) | ow (d : D) | me (a : Addr) (d : D)
/-- a pending item: a value; what slot i holds; a new list of nobody's -/
inductive I where
  | v (d : D) | b (i : Nat) (d : D) | o (d : D)
def I.val : I → D
  | .v d => d
  | .b _ d => d
  | .o d => d
inductive SR (K : PySem.W.Frag) (g : Addr) (M : Addr → Prop) (H : Hp) : S → List Addr → Option V → Prop
  | un (x : Option V) : SR K g M H .un [] x
  | v {v : V} {d : D} : R K g M H v d → SR K g M H (.v d) [] (some v)
  | ow {a : Addr} {d : D} : RO K g M H a d → SR K g M H (.ow d) [a] (some (.ref a))
  | me {a : Addr} {d : D} : RO K g M H a d → SR K g M H (.me a d) [a] (some (.ref a))
inductive SRs (K : PySem.W.Frag) (g : Addr) (M : Addr → Prop) (H : Hp) : List S → List Addr → L2.St → Prop
  | nil : SRs K g M H [] [] []
  | cons {s : S} {l : List Addr} {x : Option V} {ρ : List S} {L : List Addr} {σ : L2.St} : SR K g M H s l x → SRs K g M H ρ L σ → SRs K g M H (s :: ρ) (l ++ L) (x :: σ)
inductive IR (K : PySem.W.Frag) (g : Addr) (M : Addr → Prop) (H : Hp) (ρ : List S) (σ : L2.St) : I → List Addr → V → Prop
  | v {v : V} {d : D} : R K g M H v d → IR K g M H ρ σ (.v d) [] v
  | o {a : Addr} {d : D} : RO K g M H a d → IR K g M H ρ σ (.o d) [a] (.ref a)
  | b {i : Nat} {w : V} {d : D} : σ[i]? = some (some w) → (ρ[i]? = some (.ow d) ∨ ρ[i]? = some (.v d) ∨ ∃ a, ρ[i]? = some (.me a d)) → IR K g M H ρ σ (.b i d) [] w
inductive IRs (K : PySem.W.Frag) (g : Addr) (M : Addr → Prop) (H : Hp) (ρ : List S) (σ : L2.St) : List I → List Addr → List V → Prop
  | nil : IRs K g M H ρ σ [] [] []
  | cons {s : I} {l : List Addr} {x : V} {ds : List I} {L : List Addr} {vs : List V} : IR K g M H ρ σ s l x → IRs K g M H ρ σ ds L vs → IRs K g M H ρ σ (s :: ds) (l ++ L) (x :: vs)
section
variable {K : PySem.W.Frag} {g : Addr} {M M' : Addr → Prop} {H H' : Hp}
theorem SR.mv (m : Mv M M' H H') {s : S} {l : List Addr} {x : Option V} (k : ∀ a ∈ l, ∀ o, H a = some o → H' a = some o) (h : SR K g M H s l x) : SR K g M' H' s l x := by
  cases h with
  | un => exact .un _
  | v r => exact .v (r.mv m)
  | ow r => exact .ow (r.mv m (k _ (by simp)))
  | me r => exact .me (r.mv m (k _ (by simp)))
theorem SRs.mv (m : Mv M M' H H') : ∀ {ρ : List S} {L : List Addr} {σ : L2.St}, (∀ a ∈ L, ∀ o, H a = some o → H' a = some o) → SRs K g M H ρ L σ → SRs K g M' H' ρ L σ
  | _, _, _, _, .nil => .nil
  | _, _, _, k, .cons a b => .cons (a.mv m fun x hx => k x (List.mem_append_left _ hx)) (SRs.mv m (fun x hx => k x (List.mem_append_right _ hx)) b)
theorem IR.mv (m : Mv M M' H H') {ρ : List S} {σ : L2.St} {s : I} {l : List Addr} {x : V} (k : ∀ a ∈ l, ∀ o, H a = some o → H' a = some o) (h : IR K g M H ρ σ s l x) : IR K g M' H' ρ σ s l x := by
  cases h with
  | v r => exact .v (r.mv m)
  | o r => exact .o (r.mv m (k _ (by simp)))
  | b e r => exact .b e r
theorem IRs.mv (m : Mv M M' H H') {ρ : List S} {σ : L2.St} : ∀ {ds : List I} {L : List Addr} {vs : List V}, (∀ a ∈ L, ∀ o, H a = some o → H' a = some o) → IRs K g M H ρ σ ds L vs → IRs K g M' H' ρ σ ds L vs
  | _, _, _, _, .nil => .nil
  | _, _, _, k, .cons a b => .cons (a.mv m fun x hx => k x (List.mem_append_left _ hx)) (IRs.mv m (fun x hx => k x (List.mem_append_right _ hx)) b)
theorem SRs.at : ∀ {ρ : List S} {L : List Addr} {σ : L2.St} {i : Nat} {s : S}, SRs K g M H ρ L σ → ρ[i]? = some s →
    ∃ L1 l L2 x, L = L1 ++ (l ++ L2) ∧ σ[i]? = some x ∧ SR K g M H s l x ∧ ∀ {s' l' x'}, SR K g M H s' l' x' → SRs K g M H (ρ.set i s') (L1 ++ (l' ++ L2)) (σ.set i x')
  | _, _, _, _, _, .nil, e => by cases e
  | _, _, _, 0, _, .cons a b, e => by cases e; exact ⟨[], _, _, _, rfl, rfl, a, fun {_ l' _} h => SRs.cons (l := l') h b⟩
  | _, _, _, i + 1, _, .cons (l := l0) a b, e => by
    obtain ⟨L1, l, L2, x, e1, e2, e3, e4⟩ := SRs.at (i := i) b e
    refine ⟨l0 ++ L1, l, L2, x, by rw [e1, List.append_assoc], e2, e3, fun h => ?_⟩
    rw [List.append_assoc]
    exact .cons a (e4 h)
theorem SRs.atM : ∀ {ρ : List S} {L : List Addr} {σ : L2.St} {i : Nat} {s : S}, SRs K g M H ρ L σ → ρ[i]? = some s →
    ∃ L1 l L2 x, L = L1 ++ (l ++ L2) ∧ σ[i]? = some x ∧ SR K g M H s l x ∧ ∀ {M' H' s' l' x'}, Mv M M' H H' → (∀ a ∈ L1 ++ L2, ∀ o, H a = some o → H' a = some o) → SR K g M' H' s' l' x' → SRs K g M' H' (ρ.set i s') (L1 ++ (l' ++ L2)) (σ.set i x')
  | _, _, _, _, _, .nil, e => by cases e
  | _, _, _, 0, _, .cons a b, e => by cases e; exact ⟨[], _, _, _, rfl, rfl, a, fun {_ _ _ l' _} m k h => SRs.cons (l := l') h (b.mv m k)⟩
  | _, _, _, i + 1, _, .cons (l := l0) a b, e => by
    obtain ⟨L1, l, L2, x, e1, e2, e3, e4⟩ := SRs.atM (i := i) b e
    refine ⟨l0 ++ L1, l, L2, x, by rw [e1, List.append_assoc], e2, e3, fun {M' H' s' l' x'} m k h => ?_⟩
    rw [List.append_assoc]
    exact .cons (a.mv m fun x hx => k x (List.mem_append_left _ (List.mem_append_left _ hx))) (e4 m (fun x hx => k x (by
      rcases List.mem_append.mp hx with z | z
      · exact List.mem_append_left _ (List.mem_append_right _ z)
      · exact List.mem_append_right _ z)) h)
theorem SRs.len : ∀ {ρ : List S} {L : List Addr} {σ : L2.St}, SRs K g M H ρ L σ → ρ.length = σ.length
  | _, _, _, .nil => rfl
  | _, _, _, .cons _ b => by rw [List.length_cons, List.length_cons, SRs.len b]
theorem SRs.own : ∀ {ρ : List S} {L : List Addr} {σ : L2.St}, SRs K g M H ρ L σ → ∀ a ∈ L, ∃ o, H a = some o
  | _, _, _, .nil, _, h => by cases h
  | _, _, _, .cons a b, x, h => by
    rcases List.mem_append.mp h with z | z
    · cases a with
      | un => cases z
      | v _ => cases z
      | ow e => rw [List.mem_singleton.mp z]; exact e.at
      | me e => rw [List.mem_singleton.mp z]; exact e.at
    · exact SRs.own b x z
theorem IRs.own {ρ : List S} {σ : L2.St} : ∀ {ds : List I} {L : List Addr} {vs : List V}, IRs K g M H ρ σ ds L vs → ∀ a ∈ L, ∃ o, H a = some o
  | _, _, _, .nil, _, h => by cases h
  | _, _, _, .cons a b, x, h => by
    rcases List.mem_append.mp h with z | z
    · cases a with
      | v _ => cases z
      | o e => rw [List.mem_singleton.mp z]; exact e.at
      | b _ _ => cases z
    · exact IRs.own b x z
theorem IRs.split {ρ : List S} {σ : L2.St} : ∀ {d1 d2 : List I} {L : List Addr} {vs : List V}, IRs K g M H ρ σ (d1 ++ d2) L vs → ∃ L1 L2 v1 v2, L = L1 ++ L2 ∧ vs = v1 ++ v2 ∧ v1.length = d1.length ∧ IRs K g M H ρ σ d1 L1 v1 ∧ IRs K g M H ρ σ d2 L2 v2
  | [], _, _, _, h => ⟨[], _, [], _, rfl, rfl, rfl, .nil, h⟩
  | _ :: d1, _, _, _, .cons (l := l) (x := x) a b => by
    obtain ⟨L1, L2, v1, v2, e1, e2, e3, h1, h2⟩ := IRs.split (d1 := d1) b
    refine ⟨l ++ L1, L2, x :: v1, v2, by rw [e1, List.append_assoc], by rw [e2]; rfl, by rw [List.length_cons, List.length_cons, e3], .cons a h1, h2⟩
theorem IRs.join {ρ : List S} {σ : L2.St} : ∀ {d1 d2 : List I} {L1 L2 : List Addr} {v1 v2 : List V}, IRs K g M H ρ σ d1 L1 v1 → IRs K g M H ρ σ d2 L2 v2 → IRs K g M H ρ σ (d1 ++ d2) (L1 ++ L2) (v1 ++ v2)
  | _, _, _, _, _, _, .nil, h => h
  | _, _, _, _, _, _, .cons a b, h => by rw [List.append_assoc]; exact .cons a (IRs.join b h)
end
/-- where one stands: the reel, what else may change outside, the heap at the entry -/
structure Wd (K : PySem.W.Frag) where
  g : Addr
  k : Addr
  ns : List Int
  M0 : Addr → Prop
  H0 : Hp
def Mo {K : PySem.W.Frag} (c : Wd K) (L : List Addr) (a : Addr) : Prop := c.M0 a ∨ a ∈ L
structure StX {K : PySem.W.Frag} (c : Wd K) (L B : List Addr) (ρ : List S) (n : Nat) (ds : List I) (σ : L2.St) (H : Hp) (vs : List V) : Prop where
  sl : SRs K c.g (Mo c (L ++ B)) H ρ L σ
  it : IRs K c.g (Mo c (L ++ B)) H ρ σ ds B vs
  nd : (L ++ B).Nodup
  fr : ∀ a ∈ L ++ B, ¬ c.M0 a ∧ c.H0 a = none
  kp : Kept c.g c.H0 H
  hat : Hat H c.g c.k c.ns n
  mg : c.M0 c.g
  ml : c.M0 c.k
  md : ∀ a, c.M0 a → ∃ o, c.H0 a = some o
def St {K : PySem.W.Frag} (c : Wd K) (ρ : List S) (n : Nat) (ds : List I) (σ : L2.St) (H : Hp) (vs : List V) : Prop := ∃ L B, StX c L B ρ n ds σ H vs
section
variable {K : PySem.W.Frag} {c : Wd K} {L B : List Addr} {ρ : List S} {n : Nat} {ds : List I} {σ : L2.St} {H H' : Hp} {vs : List V} {v : V} {it : I} {p : Addr}
theorem StX.at (s : StX c L B ρ n ds σ H vs) : ∀ a, Mo c (L ++ B) a → ∃ o, H a = some o := fun a h => by
  rcases h with h | h
  · by_cases e : a = c.g
    · rw [e]; exact s.hat.at
    · obtain ⟨o, ho⟩ := s.md a h
      exact ⟨o, s.kp _ _ e ho⟩
  · rcases List.mem_append.mp h with z | z
    · obtain ⟨_, e⟩ := s.sl.own a z; exact ⟨_, e⟩
    · obtain ⟨_, e⟩ := s.it.own a z; exact ⟨_, e⟩
theorem StX.free (s : StX c L B ρ n ds σ H vs) (hp : H p = none) : ¬ Mo c (L ++ B) p := fun h => by
  obtain ⟨o, e⟩ := s.at p h
  rw [hp] at e; cases e
theorem mv_same {M : Addr → Prop} (e : Same H H') : Mv M M H H' := fun a o n h => ⟨n, e a o h⟩
theorem StX.same (s : StX c L B ρ n ds σ H vs) (e : Same H H') : StX c L B ρ n ds σ H' vs :=
  ⟨s.sl.mv (mv_same e) fun a _ o h => e a o h, s.it.mv (mv_same e) fun a _ o h => e a o h, s.nd, s.fr, s.kp.trans (kept_same e), s.hat.same e, s.mg, s.ml, s.md⟩
theorem St.same (s : St c ρ n ds σ H vs) (e : Same H H') : St c ρ n ds σ H' vs := by
  obtain ⟨L, B, s⟩ := s
  exact ⟨L, B, s.same e⟩
/-- the reel is drawn from, nothing else -/
theorem StX.kept {m : Nat} (s : StX c L B ρ n ds σ H vs) (e : Kept c.g H H') (h : Hat H' c.g c.k c.ns m) : StX c L B ρ m ds σ H' vs := by
  have hk : ∀ a ∈ L ++ B, ∀ o, H a = some o → H' a = some o := fun a ha o ho => e a o (fun z => (s.fr a ha).1 (z ▸ s.mg)) ho
  have mv : Mv (Mo c (L ++ B)) (Mo c (L ++ B)) H H' := fun a o na ho => ⟨na, e a o (fun z => na (.inl (z ▸ s.mg))) ho⟩
  exact ⟨s.sl.mv mv fun a ha => hk a (List.mem_append_left _ ha), s.it.mv mv fun a ha => hk a (List.mem_append_right _ ha), s.nd, s.fr, s.kp.trans e, h, s.mg, s.ml, s.md⟩
theorem mv_less {M M' : Addr → Prop} (e : ∀ a, M' a → M a) : Mv M M' H H := fun a o n h => ⟨fun z => n (e a z), h⟩
theorem mo_less {L L' : List Addr} (e : ∀ a ∈ L', a ∈ L) : ∀ a, Mo c L' a → Mo c L a := fun a h => h.elim .inl fun z => .inr (e a z)
/-- the topmost item goes -/
theorem StX.pop {d : I} (s : StX c L B ρ n (d :: ds) σ H (v :: vs)) : ∃ B', StX c L B' ρ n ds σ H vs := by
  obtain ⟨sl, it, nd, fr, kp, hat, mg, ml, md⟩ := s
  cases it with
  | @cons _ l _ _ B2 _ a b =>
    have hs : ∀ a ∈ L ++ B2, a ∈ L ++ (l ++ B2) := fun a ha => by
      rcases List.mem_append.mp ha with z | z
      · exact List.mem_append_left _ z
      · exact List.mem_append_right _ (List.mem_append_right _ z)
    refine ⟨B2, sl.mv (mv_less (mo_less hs)) fun _ _ _ h => h, b.mv (mv_less (mo_less hs)) fun _ _ _ h => h, ?_, fun a ha => fr a (hs a ha), kp, hat, mg, ml, md⟩
    exact nd.sublist ((List.Sublist.refl L).append (List.sublist_append_right l B2))
theorem St.pop {d : I} (s : St c ρ n (d :: ds) σ H (v :: vs)) : St c ρ n ds σ H vs := by
  obtain ⟨L, B, s⟩ := s
  obtain ⟨B', s⟩ := s.pop
  exact ⟨L, B', s⟩
theorem StX.pushR {d : D} (s : StX c L B ρ n ds σ H vs) (r : R K c.g (Mo c (L ++ B)) H v d) : StX c L B ρ n (.v d :: ds) σ H (v :: vs) :=
  ⟨s.sl, .cons (l := []) (.v r) s.it, s.nd, s.fr, s.kp, s.hat, s.mg, s.ml, s.md⟩
/-- what stands for itself -/
def sc : V → D → Prop
  | .non, .non => True
  | .bl a, .bl b => a = b
  | .int a, .int b => a = b
  | .str a, .str b => a = b
  | .ty a, .ty b => a = b
  | _, _ => False
theorem sc.r {g : Addr} {M : Addr → Prop} {d : D} (h : sc v d) : R K g M H v d := by
  cases v <;> cases d <;> first | exact h.elim | (cases h; constructor)
theorem St.pushS {d : D} (s : St c ρ n ds σ H vs) (r : sc v d) : St c ρ n (.v d :: ds) σ H (v :: vs) := by
  obtain ⟨L, B, s⟩ := s
  exact ⟨L, B, s.pushR r.r⟩
theorem StX.old {B' : List Addr} (s : StX c L B ρ n ds σ H vs) (h : ∀ a ∈ B', H a = none) : Mv (Mo c (L ++ B)) (Mo c (L ++ (B' ++ B))) H H := fun a o na ho => ⟨fun z => by
  rcases z with z | z
  · exact na (.inl z)
  · rcases List.mem_append.mp z with z | z
    · exact na (.inr (List.mem_append_left _ z))
    · rcases List.mem_append.mp z with z | z
      · rw [h a z] at ho; cases ho
      · exact na (.inr (List.mem_append_right _ z)), ho⟩
/-- a new list -/
theorem StX.pushO {xs : List D} {ws : List V} (s : StX c L B ρ n ds σ H vs) (hp : H p = none) (r : RA K c.g (Mo c (L ++ B)) H ws xs) : StX c L ([p] ++ B) ρ n (.o (.lst xs) :: ds) σ (upd H p (.lst ws)) (.ref p :: vs) := by
  have sm : Same H (upd H p (.lst ws)) := HX.same_new hp
  have mv : Mv (Mo c (L ++ B)) (Mo c (L ++ ([p] ++ B))) H (upd H p (.lst ws)) := fun a o na ho => ⟨(s.old (B' := [p]) (fun a ha => by rw [List.mem_singleton.mp ha]; exact hp) a o na ho).1, sm a o ho⟩
  refine ⟨s.sl.mv mv fun a _ o h => sm a o h, .cons (l := [p]) (.o ⟨_, upd_same, r.mv mv⟩) (s.it.mv mv fun a _ o h => sm a o h), ?_, fun a ha => ?_, s.kp.trans (kept_same sm), s.hat.same sm, s.mg, s.ml, s.md⟩
  · have hn : p ∉ L ++ B := fun z => s.free hp (.inr z)
    exact (List.perm_middle (a := p) (l₁ := L) (l₂ := B)).nodup_iff.mpr (List.nodup_cons.mpr ⟨hn, s.nd⟩)
  · rcases List.mem_append.mp ha with z | z
    · exact s.fr a (List.mem_append_left _ z)
    · rcases List.mem_append.mp z with z | z
      · rw [List.mem_singleton.mp z]
        refine ⟨fun q => s.free hp (.inl q), ?_⟩
        by_cases e : p = c.g
        · exact absurd s.mg (fun q => s.free hp (.inl (e ▸ q)))
        · cases q : c.H0 p with
          | none => rfl
          | some o => have := s.kp _ _ e q; rw [hp] at this; cases this
      · exact s.fr a (List.mem_append_right _ z)
/-- a new tuple -/
theorem StX.pushT {xs : List D} {ws : List V} (s : StX c L B ρ n ds σ H vs) (hp : H p = none) (r : RA K c.g (Mo c (L ++ B)) H ws xs) : StX c L B ρ n (.v (.tup xs) :: ds) σ (upd H p (.tup ws)) (.ref p :: vs) := by
  have sm : Same H (upd H p (.tup ws)) := HX.same_new hp
  exact (s.same sm).pushR (.tup (.inl ⟨s.free hp, upd_same⟩) (r.mv (mv_same sm)))
/-- an item's list -/
theorem StX.ls {xs : List D} (s : StX c L B ρ n (it :: ds) σ H (v :: vs)) (e : it.val = .lst xs) : ∃ a ws, v = .ref a ∧ H a = some (.lst ws) ∧ RA K c.g (Mo c (L ++ B)) H ws xs := by
  cases s.it with
  | cons a _ =>
    cases a with
    | v r => cases (show _ = D.lst xs from e); cases r with | lst n h q => exact ⟨_, _, rfl, h, q⟩
    | o h => cases (show _ = D.lst xs from e); obtain ⟨_, h, q⟩ := h; exact ⟨_, _, rfl, h, q⟩
    | @b i _ _ h q =>
      cases (show _ = D.lst xs from e)
      rcases q with q | q | ⟨a, q⟩
      · obtain ⟨_, _, _, x, _, e2, e3, _⟩ := s.sl.at q
        rw [h] at e2; cases e2
        cases e3 with | ow h2 => obtain ⟨_, h2, r⟩ := h2; exact ⟨_, _, rfl, h2, r⟩
      · obtain ⟨_, _, _, x, _, e2, e3, _⟩ := s.sl.at q
        rw [h] at e2; cases e2
        cases e3 with | v r => cases r with | lst n h2 r => exact ⟨_, _, rfl, h2, r⟩
      · obtain ⟨_, _, _, x, _, e2, e3, _⟩ := s.sl.at q
        rw [h] at e2; cases e2
        cases e3 with | me h2 => obtain ⟨_, h2, r⟩ := h2; exact ⟨_, _, rfl, h2, r⟩
theorem StX.val {d : D} (s : StX c L B ρ n (.v d :: ds) σ H (v :: vs)) : R K c.g (Mo c (L ++ B)) H v d := by
  cases s.it with
  | cons a _ => cases a with | v r => exact r
end
end HD
/-! the judgements of the walk on data, and their steps -/
namespace HD
open PySem PySem.Spec PyProof.Rows L2 HX
abbrev QI := I → List S → Nat → Prop
abbrev QS := List S → Nat → Prop
section
variable {K : PySem.W.Frag}
def GE (c : Wd K) (ρ : List S) (n : Nat) (ds : List I) (t : TE) (Q : QI) : Prop :=
  ∀ σ H vs (F : VK), St c ρ n ds σ H vs → (∀ it ρ' n' v H', Q it ρ' n' → St c ρ' n' (it :: ds) σ H' (v :: vs) → F v H') → t σ H F
def GT (c : Wd K) (ρ : List S) (n : Nat) (ds : List I) (t : TT) (Q : Bool → QS) : Prop :=
  ∀ σ H vs (F : Bool → Hp → Prop), St c ρ n ds σ H vs → (∀ b ρ' n' H', Q b ρ' n' → St c ρ' n' ds σ H' vs → F b H') → t σ H F
def GA (c : Wd K) (ρ : List S) (n : Nat) (ds : List I) (t : TA) (Q : List I → QS) : Prop :=
  ∀ σ H vs (F : List V → Hp → Prop), St c ρ n ds σ H vs → (∀ its ρ' n' xs H', Q its ρ' n' → xs.length = its.length → St c ρ' n' (its ++ ds) σ H' (xs ++ vs) → F xs H') → t σ H F
/-- a two-place operation on the two topmost items -/
def GO (c : Wd K) (ρ : List S) (n : Nat) (ds : List I) (r : R2) (ix iy : I) (Q : QI) : Prop :=
  ∀ σ H vs x y (F : VK), St c ρ n (iy :: ix :: ds) σ H (y :: x :: vs) → (∀ it ρ' n' v H', Q it ρ' n' → St c ρ' n' (it :: ds) σ H' (v :: vs) → F v H') → r x y H F
def GU (c : Wd K) (ρ : List S) (n : Nat) (ds : List I) (r : V → Hp → VK → Prop) (ix : I) (Q : QI) : Prop :=
  ∀ σ H vs x (F : VK), St c ρ n (ix :: ds) σ H (x :: vs) → (∀ it ρ' n' v H', Q it ρ' n' → St c ρ' n' (it :: ds) σ H' (v :: vs) → F v H') → r x H F
/-- a call of a built-in with items -/
def GB (c : Wd K) (ρ : List S) (n : Nat) (ds : List I) (r : List V → Hp → VK → Prop) (its : List I) (Q : QI) : Prop :=
  ∀ σ H vs xs (F : VK), xs.length = its.length → St c ρ n (its ++ ds) σ H (xs ++ vs) → (∀ it ρ' n' v H', Q it ρ' n' → St c ρ' n' (it :: ds) σ H' (v :: vs) → F v H') → r xs H F
/-- a method of a built-in type -/
def GM (c : Wd K) (ρ : List S) (n : Nat) (ds : List I) (r : V → List V → Hp → VK → Prop) (ix : I) (its : List I) (Q : QI) : Prop :=
  ∀ σ H vs x xs (F : VK), xs.length = its.length → St c ρ n (its ++ ix :: ds) σ H (xs ++ x :: vs) → (∀ it ρ' n' v H', Q it ρ' n' → St c ρ' n' (it :: ds) σ H' (v :: vs) → F v H') → r x xs H F
/-- a target -/
def GG (c : Wd K) (ρ : List S) (n : Nat) (ds : List I) (g : TG) (it : I) (Q : QS) : Prop :=
  ∀ σ H vs v (F : L2.St → Hp → Prop), St c ρ n (it :: ds) σ H (v :: vs) → (∀ ρ' n' σ' H', Q ρ' n' → St c ρ' n' ds σ' H' vs → F σ' H') → g v σ H F
def GGs (c : Wd K) (ρ : List S) (n : Nat) (ds : List I) (g : TGs) (its : List I) (Q : QS) : Prop :=
  ∀ σ H vs xs (F : L2.St → Hp → Prop), xs.length = its.length → St c ρ n (its ++ ds) σ H (xs ++ vs) → (∀ ρ' n' σ' H', Q ρ' n' → St c ρ' n' ds σ' H' vs → F σ' H') → g xs σ H F
structure Es where
  nx : QS
  rt : I → Nat → Prop
  bk : QS
  ct : QS
/-- what is handed back -/
def Rt (c : Wd K) (H : Hp) (v : V) : I → Prop
  | .v d => R K c.g c.M0 H v d
  | .o d => ∃ p, v = .ref p ∧ c.H0 p = none ∧ ¬ c.M0 p ∧ RO K c.g (fun a => c.M0 a ∨ a = p) H p d
  | .b _ _ => False
structure EOk (c : Wd K) (ds : List I) (vs : List V) (D : Es) (E : Ends) : Prop where
  nx : ∀ ρ n σ H, D.nx ρ n → St c ρ n ds σ H vs → E.nx σ H
  rt : ∀ it n v H, D.rt it n → Kept c.g c.H0 H → Hat H c.g c.k c.ns n → Rt c H v it → E.rt v H
  bk : ∀ ρ n σ H, D.bk ρ n → St c ρ n ds σ H vs → E.bk σ H
  ct : ∀ ρ n σ H, D.ct ρ n → St c ρ n ds σ H vs → E.ct σ H
def GS (c : Wd K) (ρ : List S) (n : Nat) (ds : List I) (t : TS) (D : Es) : Prop :=
  ∀ σ H vs E, St c ρ n ds σ H vs → EOk c ds vs D E → t E σ H
section
variable {c : Wd K} {ρ : List S} {n : Nat} {ds : List I} {nx bk ct : QS} {rt : I → Nat → Prop} {t u : TS} {te : TE} {g : TG} {cc : TT}
/-! ### statements -/
theorem seq_ (h : GS c ρ n ds t ⟨fun ρ' n' => GS c ρ' n' ds u ⟨nx, rt, bk, ct⟩, rt, bk, ct⟩) : GS c ρ n ds (tSeq t u) ⟨nx, rt, bk, ct⟩ := fun σ H vs E s k =>
  h σ H vs ⟨u E, E.rt, E.bk, E.ct⟩ s ⟨fun ρ n σ H q s' => q σ H vs E s' k, k.rt, k.bk, k.ct⟩
theorem cut_ (Mid : QS) (h : GS c ρ n ds t ⟨Mid, rt, bk, ct⟩) (h2 : ∀ ρ' n', Mid ρ' n' → GS c ρ' n' ds u ⟨nx, rt, bk, ct⟩) : GS c ρ n ds (tSeq t u) ⟨nx, rt, bk, ct⟩ := fun σ H vs E s k =>
  h σ H vs ⟨u E, E.rt, E.bk, E.ct⟩ s ⟨fun ρ n σ H q s' => h2 ρ n q σ H vs E s' k, k.rt, k.bk, k.ct⟩
theorem GS.mono {D D' : Es} (h : GS c ρ n ds t D) (h1 : ∀ ρ n, D.nx ρ n → D'.nx ρ n) (h2 : ∀ i n, D.rt i n → D'.rt i n) (h3 : ∀ ρ n, D.bk ρ n → D'.bk ρ n) (h4 : ∀ ρ n, D.ct ρ n → D'.ct ρ n) : GS c ρ n ds t D' := fun σ H vs E s k =>
  h σ H vs E s ⟨fun ρ n σ H q => k.nx ρ n σ H (h1 _ _ q), fun i n v H q => k.rt i n v H (h2 _ _ q), fun ρ n σ H q => k.bk ρ n σ H (h3 _ _ q), fun ρ n σ H q => k.ct ρ n σ H (h4 _ _ q)⟩
theorem next_ (h : nx ρ n) : GS c ρ n ds tNext ⟨nx, rt, bk, ct⟩ := fun σ H vs E s k => k.nx ρ n σ H h s
theorem brk_ (h : bk ρ n) : GS c ρ n ds tBreak ⟨nx, rt, bk, ct⟩ := fun σ H vs E s k => k.bk ρ n σ H h s
theorem cont_ (h : ct ρ n) : GS c ρ n ds tCont ⟨nx, rt, bk, ct⟩ := fun σ H vs E s k => k.ct ρ n σ H h s
theorem asg_ (h : GE c ρ n ds te fun it ρ' n' => GG c ρ' n' ds g it nx) : GS c ρ n ds (tAsg te g) ⟨nx, rt, bk, ct⟩ := fun σ H vs E s k =>
  h σ H vs _ s fun it ρ' n' v H' q s' => q σ H' vs v _ s' fun ρ2 n2 σ2 H2 q2 s2 => k.nx _ _ _ _ q2 s2
theorem drop_ (h : GE c ρ n ds te fun _ ρ' n' => nx ρ' n') : GS c ρ n ds (tDrop te) ⟨nx, rt, bk, ct⟩ := fun σ H vs E s k =>
  h σ H vs _ s fun it ρ' n' v H' q s' => k.nx _ _ _ _ q s'.pop
theorem ifS_ (h : GT c ρ n ds cc fun b ρ' n' => if b = true then GS c ρ' n' ds t ⟨nx, rt, bk, ct⟩ else GS c ρ' n' ds u ⟨nx, rt, bk, ct⟩) : GS c ρ n ds (tIfS cc t u) ⟨nx, rt, bk, ct⟩ := fun σ H vs E s k =>
  h σ H vs _ s fun b ρ' n' H' q s' => by
    cases b with
    | true => rw [if_pos rfl] at q ⊢; exact q σ H' vs E s' k
    | false => rw [if_neg Bool.false_ne_true] at q ⊢; exact q σ H' vs E s' k
/-- what a return hands back -/
def fin (rt : I → Nat → Prop) (ρ : List S) (n : Nat) : I → Prop
  | .v d => rt (.v d) n
  | .o d => rt (.o d) n
  | .b i d => match ρ[i]? with
    | some (.ow _) => rt (.o d) n
    | some (.me _ _) => rt (.o d) n
    | _ => rt (.v d) n
theorem StX.kept0 {L B : List Addr} {σ : L2.St} {H : Hp} {vs : List V} (s : StX c L B ρ n ds σ H vs) : Mv (Mo c (L ++ B)) c.M0 H H := fun a o na h => ⟨fun z => na (.inl z), h⟩
theorem own_rt {L B : List Addr} {σ : L2.St} {H : Hp} {vs : List V} {a : Addr} {d : D} (s : StX c L B ρ n ds σ H vs) (ha : a ∈ L ++ B) (r : RO K c.g (Mo c (L ++ B)) H a d) : Rt c H (.ref a) (.o d) :=
  ⟨a, rfl, (s.fr a ha).2, (s.fr a ha).1, r.mv (fun b o nb ho => ⟨fun z => nb (z.elim .inl fun e => .inr (e ▸ ha)), ho⟩) fun _ h => h⟩
theorem ret_ (h : GE c ρ n ds te fun it ρ' n' => fin rt ρ' n' it) : GS c ρ n ds (tRet te) ⟨nx, rt, bk, ct⟩ := fun σ H vs E s k =>
  h σ H vs _ s fun it ρ' n' v H' q ⟨L, B, s⟩ => by
    have s0 := s
    cases hit : s.it with
    | cons a b =>
      cases a with
      | v r => exact k.rt _ _ _ _ q s.kp s.hat (r.mv s.kept0)
      | o r => exact k.rt _ _ _ _ q s.kp s.hat (own_rt s (List.mem_append_right _ (by simp)) r)
      | @b i w xs e r =>
        have sl := s.sl
        rcases r with r | r | ⟨a, r⟩
        · have q' : rt (.o xs) n' := by
            have q := q
            simp only [fin, r] at q
            exact q
          obtain ⟨L1, l, L2, x, e1, e2, e3, _⟩ := sl.at r
          rw [e] at e2; cases e2
          cases e3 with
          | ow h1 => exact k.rt _ _ _ _ q' s.kp s.hat (own_rt s (by rw [e1]; simp) h1)
        · have q' : rt (.v xs) n' := by
            have q := q
            simp only [fin, r] at q
            exact q
          obtain ⟨L1, l, L2, x, e1, e2, e3, _⟩ := sl.at r
          rw [e] at e2; cases e2
          cases e3 with
          | v r => exact k.rt _ _ _ _ q' s.kp s.hat (r.mv s.kept0)
        · have q' : rt (.o xs) n' := by
            have q := q
            simp only [fin, r] at q
            exact q
          obtain ⟨L1, l, L2, x, e1, e2, e3, _⟩ := sl.at r
          rw [e] at e2; cases e2
          cases e3 with
          | me h1 => exact k.rt _ _ _ _ q' s.kp s.hat (own_rt s (by rw [e1]; simp) h1)
theorem retN_ (h : rt (.v .non) n) : GS c ρ n ds tRetN ⟨nx, rt, bk, ct⟩ := fun σ H vs E ⟨L, B, s⟩ k => k.rt _ _ _ _ h s.kp s.hat .non
end
end

/-! ### a pending item made fast -/
def frz1 (ρ : List S) : I → List S
  | .b i d => match ρ[i]? with
    | some (.ow _) => ρ.set i (.v d)
    | some (.me _ _) => ρ.set i (.v d)
    | _ => ρ
  | _ => ρ
def frz : List I → List S → List S
  | [], ρ => ρ
  | it :: its, ρ => frz its (frz1 ρ it)
def fv (it : I) : I := .v it.val
section
variable {K : PySem.W.Frag} {c : Wd K} {L B : List Addr} {ρ : List S} {n : Nat} {ds : List I} {σ : L2.St} {H H' : Hp} {vs : List V} {v : V} {it : I} {p : Addr}
/-- items that look at slots -/
def isB : I → Bool
  | .b _ _ => true
  | _ => false
theorem IR.fr {g : Addr} {M : Addr → Prop} {i : Nat} {xs : D} (hi : ρ[i]? = some (.ow xs) ∨ ∃ a, ρ[i]? = some (.me a xs)) {it : I} {l : List Addr} {w : V} (h : IR K g M H ρ σ it l w) : IR K g M H (ρ.set i (.v xs)) σ it l w := by
  cases h with
  | v r => exact .v r
  | o r => exact .o r
  | @b j w ys e r =>
    refine .b e ?_
    by_cases z : i = j
    · subst z
      refine .inr (.inl ?_)
      have hl : i < ρ.length := hi.elim (fun h => (List.getElem?_eq_some_iff.mp h).1) fun ⟨_, h⟩ => (List.getElem?_eq_some_iff.mp h).1
      have e : ys = xs := by
        rcases hi with hi | ⟨a, hi⟩ <;> rw [hi] at r <;> rcases r with r | r | ⟨b, r⟩ <;> cases r <;> rfl
      rw [e, List.getElem?_set_self hl]
    · rw [List.getElem?_set_ne z]; exact r
theorem IRs.fr {g : Addr} {M : Addr → Prop} {i : Nat} {xs : D} (hi : ρ[i]? = some (.ow xs) ∨ ∃ a, ρ[i]? = some (.me a xs)) : ∀ {ds : List I} {l : List Addr} {w : List V}, IRs K g M H ρ σ ds l w → IRs K g M H (ρ.set i (.v xs)) σ ds l w
  | _, _, _, .nil => .nil
  | _, _, _, .cons a b => .cons (a.fr hi) (IRs.fr hi b)
/-- what slot i owns is made fast -/
theorem StX.fast {i : Nat} {xs : D} (s : StX c L B ρ n ds σ H vs) (hi : ρ[i]? = some (.ow xs) ∨ ∃ a, ρ[i]? = some (.me a xs)) : ∃ L', StX c L' B (ρ.set i (.v xs)) n ds σ H vs := by
  obtain ⟨sl, it, nd, fr, kp, hat, mg, ml, md⟩ := s
  have hl0 : i < ρ.length := hi.elim (fun h => (List.getElem?_eq_some_iff.mp h).1) fun ⟨_, h⟩ => (List.getElem?_eq_some_iff.mp h).1
  obtain ⟨L1, l, L2, x, e1, e2, e3, e4⟩ := sl.at (s := ρ[i]) (List.getElem?_eq_getElem hl0)
  obtain ⟨a, rfl, rfl, ra⟩ : ∃ a, l = [a] ∧ x = some (.ref a) ∧ RO K c.g (Mo c (L ++ B)) H a xs := by
    rcases hi with hi | ⟨a, hi⟩
    · have e : ρ[i] = .ow xs := Option.some.inj ((List.getElem?_eq_getElem hl0).symm.trans hi)
      rw [e] at e3
      cases e3 with | ow r => exact ⟨_, rfl, rfl, r⟩
    · have e : ρ[i] = .me a xs := Option.some.inj ((List.getElem?_eq_getElem hl0).symm.trans hi)
      rw [e] at e3
      cases e3 with | me r => exact ⟨_, rfl, rfl, r⟩
  · subst e1
    have sub : ∀ b ∈ (L1 ++ ([] ++ L2)) ++ B, b ∈ (L1 ++ ([a] ++ L2)) ++ B := fun b hb => by
      simp only [List.mem_append, List.mem_singleton, List.nil_append] at hb ⊢
      rcases hb with (z | z) | z
      · exact .inl (.inl z)
      · exact .inl (.inr (.inr z))
      · exact .inr z
    have hna : a ∉ (L1 ++ ([] ++ L2)) ++ B := fun z => by
      have nd2 : ((L1 ++ ([a] ++ L2)) ++ B).Nodup := nd
      have e : (L1 ++ ([a] ++ L2)) ++ B = L1 ++ a :: (L2 ++ B) := by simp
      rw [e] at nd2
      have nd3 := (List.nodup_cons.mp ((List.perm_middle (a := a) (l₁ := L1) (l₂ := L2 ++ B)).nodup_iff.mp nd2)).1
      exact nd3 (by simpa [List.append_assoc] using z)
    have mv : Mv (Mo c ((L1 ++ ([a] ++ L2)) ++ B)) (Mo c ((L1 ++ ([] ++ L2)) ++ B)) H H := mv_less (mo_less sub)
    have nr : R K c.g (Mo c ((L1 ++ ([] ++ L2)) ++ B)) H (.ref a) xs := (ra.mv mv fun _ h => h).r (fun z => z.elim (fun z => (fr a (by simp)).1 z) hna)
    refine ⟨L1 ++ ([] ++ L2), ?_, (it.mv mv fun _ _ _ h => h).fr hi, ?_, fun b hb => fr b (sub b hb), kp, hat, mg, ml, md⟩
    · have sl2 := (e4 (s' := .un) (l' := []) (.un (some (V.ref a)))).mv mv (fun _ _ _ h => h)
      have hl := hl0
      obtain ⟨L1', l', L2', x', f1, f2, f3, f4⟩ := sl2.at (i := i) (s := .un) (by rw [List.getElem?_set_self hl])
      cases f3
      have := f4 (SR.v nr)
      rw [← f1, List.set_set, List.set_set] at this
      have hx : σ.set i (some (V.ref a)) = σ := by
        obtain ⟨h1, h2⟩ := List.getElem?_eq_some_iff.mp e2
        rw [← h2, List.set_getElem_self]
      rw [hx] at this
      exact this
    · exact nd.sublist (by
        refine List.Sublist.append ?_ (List.Sublist.refl B)
        exact (List.Sublist.refl L1).append (List.sublist_append_right [a] L2))
theorem StX.frz1 (s : StX c L B ρ n (it :: ds) σ H (v :: vs)) : ∃ L' B', StX c L' B' (HD.frz1 ρ it) n (.v it.val :: ds) σ H (v :: vs) := by
  cases it with
  | v d => exact ⟨L, B, s⟩
  | o xs =>
    obtain ⟨sl, it, nd, fr, kp, hat, mg, ml, md⟩ := s
    cases it with
    | cons a b =>
      rename_i B2
      cases a with
      | @o a _ ra =>
        have sub : ∀ b ∈ L ++ B2, b ∈ L ++ ([a] ++ B2) := fun b hb => by
          simp only [List.mem_append, List.mem_singleton] at hb ⊢
          rcases hb with z | z
          · exact .inl z
          · exact .inr (.inr z)
        have hna : a ∉ L ++ B2 := fun z => (List.nodup_cons.mp ((List.perm_middle (a := a) (l₁ := L) (l₂ := B2)).nodup_iff.mp nd)).1 z
        have mv : Mv (Mo c (L ++ ([a] ++ B2))) (Mo c (L ++ B2)) H H := mv_less (mo_less sub)
        have nr : R K c.g (Mo c (L ++ B2)) H (.ref a) xs := (ra.mv mv fun _ h => h).r (fun z => z.elim (fun z => (fr a (by simp)).1 z) hna)
        exact ⟨L, B2, sl.mv mv fun _ _ _ h => h, .cons (l := []) (.v nr) (b.mv mv fun _ _ _ h => h), nd.sublist ((List.Sublist.refl L).append (List.sublist_append_right [a] B2)), fun b hb => fr b (sub b hb), kp, hat, mg, ml, md⟩
  | b i xs =>
    cases hit : s.it with
    | cons a b =>
      cases a with
      | @b i w xs e r =>
        by_cases hr : ρ[i]? = some (.ow xs) ∨ ∃ a, ρ[i]? = some (.me a xs)
        · obtain ⟨L', s'⟩ := s.fast hr
          have e2 : HD.frz1 ρ (.b i xs) = ρ.set i (.v xs) := by
            rcases hr with r | ⟨a, r⟩ <;> simp only [HD.frz1, r]
          rw [e2]
          have hl : i < ρ.length := hr.elim (fun h => (List.getElem?_eq_some_iff.mp h).1) fun ⟨_, h⟩ => (List.getElem?_eq_some_iff.mp h).1
          obtain ⟨L1, l, L2, x, e1, e3, e4, _⟩ := s'.sl.at (i := i) (s := .v xs) (by rw [List.getElem?_set_self hl])
          rw [e] at e3; cases e3
          cases e4 with
          | v q =>
            cases s'.it with
            | cons a' b' =>
              cases a'
              refine ⟨L', _, s'.sl, .cons (l := []) (.v q) b', s'.nd, s'.fr, s'.kp, s'.hat, s'.mg, s'.ml, s'.md⟩
        · have r2 : ρ[i]? = some (.v xs) := by
            rcases r with r | r | r
            · exact absurd (.inl r) hr
            · exact r
            · exact absurd (.inr r) hr
          have e2 : HD.frz1 ρ (.b i xs) = ρ := by simp only [HD.frz1, r2]
          rw [e2]
          obtain ⟨L1, l, L2, x, e1, e3, e4, _⟩ := s.sl.at r2
          rw [e] at e3; cases e3
          cases e4 with
          | v q => exact ⟨L, _, s.sl, .cons (l := []) (.v q) b, s.nd, s.fr, s.kp, s.hat, s.mg, s.ml, s.md⟩
theorem St.frz1 (s : St c ρ n (it :: ds) σ H (v :: vs)) : St c (HD.frz1 ρ it) n (.v it.val :: ds) σ H (v :: vs) := by
  obtain ⟨L, B, s⟩ := s
  exact s.frz1
/-- the topmost item sinks to the second place -/
theorem St.rot {is : List I} {ws : List V} (hl : ws.length = is.length) (s : St c ρ n (it :: (is ++ ds)) σ H (v :: (ws ++ vs))) : St c ρ n (is ++ it :: ds) σ H (ws ++ v :: vs) := by
  obtain ⟨L, B, sl, it, nd, fr, kp, hat, mg, ml, md⟩ := s
  cases it with
  | @cons _ l _ _ B2 _ a b =>
    obtain ⟨L1, L2, v1, v2, e1, e2, e3, h1, h2⟩ := b.split
    have e4 : ws = v1 ∧ vs = v2 := List.append_inj e2 (by rw [hl, e3])
    obtain ⟨rfl, rfl⟩ := e4
    subst e1
    have p : (L ++ (l ++ (L1 ++ L2))).Perm (L ++ (L1 ++ (l ++ L2))) := List.Perm.append_left L (by
      rw [← List.append_assoc, ← List.append_assoc]
      exact List.Perm.append_right L2 List.perm_append_comm)
    have mv : Mv (Mo c (L ++ (l ++ (L1 ++ L2)))) (Mo c (L ++ (L1 ++ (l ++ L2)))) H H := mv_less (mo_less fun a ha => p.symm.mem_iff.mp ha)
    exact ⟨L, L1 ++ (l ++ L2), sl.mv mv fun _ _ _ h => h, (h1.mv mv fun _ _ _ h => h).join (.cons (a.mv mv fun _ _ _ h => h) (h2.mv mv fun _ _ _ h => h)), p.nodup_iff.mp nd, fun a ha => fr a (p.symm.mem_iff.mp ha), kp, hat, mg, ml, md⟩
theorem St.rot' {is : List I} {ws : List V} (hl : ws.length = is.length) (s : St c ρ n (is ++ it :: ds) σ H (ws ++ v :: vs)) : St c ρ n (it :: (is ++ ds)) σ H (v :: (ws ++ vs)) := by
  obtain ⟨L, B, sl, it, nd, fr, kp, hat, mg, ml, md⟩ := s
  obtain ⟨L1, L2, v1, v2, e1, e2, e3, h1, h2⟩ := it.split
  have e4 : ws = v1 ∧ v :: vs = v2 := List.append_inj e2 (by rw [hl, e3])
  obtain ⟨rfl, rfl⟩ := e4
  subst e1
  cases h2 with
  | @cons _ l _ _ B2 _ a b =>
    have p : (L ++ (l ++ (L1 ++ B2))).Perm (L ++ (L1 ++ (l ++ B2))) := List.Perm.append_left L (by
      rw [← List.append_assoc, ← List.append_assoc]
      exact List.Perm.append_right B2 List.perm_append_comm)
    have mv : Mv (Mo c (L ++ (L1 ++ (l ++ B2)))) (Mo c (L ++ (l ++ (L1 ++ B2)))) H H := mv_less (mo_less fun a ha => p.mem_iff.mp ha)
    exact ⟨L, l ++ (L1 ++ B2), sl.mv mv fun _ _ _ h => h, .cons (a.mv mv fun _ _ _ h => h) ((h1.mv mv fun _ _ _ h => h).join (b.mv mv fun _ _ _ h => h)), p.symm.nodup_iff.mp nd, fun a ha => fr a (p.mem_iff.mp ha), kp, hat, mg, ml, md⟩
theorem St.frzs : ∀ {is : List I} {ws : List V} {ρ : List S} {ds : List I} {vs : List V}, ws.length = is.length → St c ρ n (is ++ ds) σ H (ws ++ vs) → St c (frz is ρ) n (is.map fv ++ ds) σ H (ws ++ vs)
  | [], [], _, _, _, _, s => s
  | it :: is, w :: ws, ρ, ds, vs, hl, s => by
    have hl2 : ws.length = is.length := by simpa using hl
    have s1 : St c (HD.frz1 ρ it) n (fv it :: (is ++ ds)) σ H (w :: (ws ++ vs)) := St.frz1 s
    have s2 := St.rot hl2 s1
    have s3 := St.frzs (ds := fv it :: ds) (vs := w :: vs) hl2 s2
    exact St.rot' (by rw [List.length_map]; exact hl2) s3
theorem StX.vals : ∀ {is : List D} {ws : List V} {ds : List I} {vs : List V} {B : List Addr}, ws.length = is.length → IRs K c.g (Mo c L) H ρ σ (is.map I.v ++ ds) B (ws ++ vs) → RA K c.g (Mo c L) H ws is
  | [], [], _, _, _, _, _ => .nil
  | i :: is, w :: ws, _, _, _, hl, h => by
    cases h with
    | cons a b => cases a with | v r => exact .cons r (StX.vals (by simpa using hl) b)
end
end HD
/-! expressions, targets, calls -/
namespace HD
open PySem PySem.Spec PyProof.Rows L2 HX
section
variable {K : PySem.W.Frag} {c : Wd K} {ρ : List S} {n : Nat} {ds : List I} {Q : QI} {QA : List I → QS} {QB : Bool → QS} {QG : QS}
/-! ### names and constants -/
/-- what a name's slot gives -/
def rd (i : Nat) (Q : I → Prop) : Option S → Prop
  | some (.v d) => Q (.v d)
  | some (.ow d) => Q (.b i d)
  | some (.me _ d) => Q (.b i d)
  | _ => False
theorem varG_ {i : Nat} (h : rd i (fun it => Q it ρ n) ρ[i]?) : GE c ρ n ds (tVar i) Q := fun σ H vs F s k => by
  obtain ⟨L, B, s⟩ := s
  cases e : ρ[i]? with
  | none => rw [e] at h; exact h.elim
  | some x =>
    rw [e] at h
    obtain ⟨L1, l, L2, y, e1, e2, e3, _⟩ := s.sl.at e
    cases e3 with
    | un => exact h.elim
    | v r => exact ⟨_, e2, k _ _ _ _ _ h ⟨L, B, s.pushR r⟩⟩
    | ow ra => exact ⟨_, e2, k _ _ _ _ _ h ⟨L, B, s.sl, .cons (l := []) (.b e2 (.inl e)) s.it, s.nd, s.fr, s.kp, s.hat, s.mg, s.ml, s.md⟩⟩
    | me ra => exact ⟨_, e2, k _ _ _ _ _ h ⟨L, B, s.sl, .cons (l := []) (.b e2 (.inr (.inr ⟨_, e⟩))) s.it, s.nd, s.fr, s.kp, s.hat, s.mg, s.ml, s.md⟩⟩
theorem c_ {v : V} {d : D} (hs : sc v d) (h : Q (.v d) ρ n) : GE c ρ n ds (tC v) Q := fun σ H vs F s k => k _ _ _ _ _ h (s.pushS hs)
theorem cint_ {i : Int} (h : Q (.v (.int i)) ρ n) : GE c ρ n ds (tC (.int i)) Q := c_ (d := .int i) rfl h
theorem cbl_ {i : Bool} (h : Q (.v (.bl i)) ρ n) : GE c ρ n ds (tC (.bl i)) Q := c_ (d := .bl i) rfl h
theorem cstr_ {i : Str} (h : Q (.v (.str i)) ρ n) : GE c ρ n ds (tC (.str i)) Q := c_ (d := .str i) rfl h
theorem cnon_ (h : Q (.v .non) ρ n) : GE c ρ n ds (tC .non) Q := c_ (d := .non) True.intro h
theorem cty_ {i : String} (h : Q (.v (.ty i)) ρ n) : GE c ρ n ds (tC (.ty i)) Q := c_ (d := .ty i) rfl h
theorem cglo_ {a : Addr} (h : Q (.v (.glo a)) ρ n) : GE c ρ n ds (tC (.ref a)) Q := fun σ H vs F ⟨L, B, s⟩ k => k _ _ _ _ _ h ⟨L, B, s.pushR (.glo a)⟩
/-! ### operators -/
theorem op_ {r : R2} {ta tb : TE} (h : GE c ρ n ds ta fun ix ρ1 n1 => GE c ρ1 n1 (ix :: ds) tb fun iy ρ2 n2 => GO c ρ2 n2 ds r ix iy Q) : GE c ρ n ds (tOp r ta tb) Q := fun σ H vs F s k =>
  h σ H vs _ s fun ix ρ1 n1 x H1 q1 s1 => q1 σ H1 (x :: vs) _ s1 fun iy ρ2 n2 y H2 q2 s2 => q2 σ H2 vs x y F s2 k
theorem un_ {r : V → Hp → VK → Prop} {ta : TE} (h : GE c ρ n ds ta fun ix ρ1 n1 => GU c ρ1 n1 ds r ix Q) : GE c ρ n ds (tUn r ta) Q := fun σ H vs F s k =>
  h σ H vs _ s fun ix ρ1 n1 x H1 q1 s1 => q1 σ H1 vs x F s1 k
theorem cb_ {r : List V → Hp → VK → Prop} {t : TA} (h : GA c ρ n ds t fun its ρ1 n1 => GB c ρ1 n1 ds r its Q) : GE c ρ n ds (tCB r t) Q := fun σ H vs F s k =>
  h σ H vs _ s fun its ρ1 n1 xs H1 q1 hl s1 => q1 σ H1 vs xs F hl s1 k
/-! ### arguments -/
theorem nil_ (h : QA [] ρ n) : GA c ρ n ds tNil QA := fun σ H vs F s k => k [] ρ n [] H h rfl s
theorem cons_ {te : TE} {tr : TA} (h : GE c ρ n ds te fun it ρ1 n1 => GA c ρ1 n1 (it :: ds) tr fun its ρ2 n2 => QA (it :: its) ρ2 n2) : GA c ρ n ds (tCons te tr) QA := fun σ H vs F s k =>
  h σ H vs _ s fun it ρ1 n1 x H1 q1 s1 => q1 σ H1 (x :: vs) _ s1 fun its ρ2 n2 xs H2 q2 hl s2 => k (it :: its) ρ2 n2 (x :: xs) H2 q2 (by simp [hl]) (St.rot' hl s2)
/-! ### displays -/
theorem IRs.dropV {g : Addr} {M : Addr → Prop} {H : Hp} {ρ : List S} {σ : L2.St} : ∀ {es : List D} {ws : List V} {ds : List I} {vs : List V} {B : List Addr}, ws.length = es.length → IRs K g M H ρ σ (es.map I.v ++ ds) B (ws ++ vs) → IRs K g M H ρ σ ds B vs
  | [], [], _, _, _, _, h => h
  | e :: es, w :: ws, _, _, _, hl, h => by
    cases h with
    | cons a b => cases a with | v _ => exact IRs.dropV (by simpa using hl) b
theorem items {is : List I} {ws : List V} {σ : L2.St} {H : Hp} {vs : List V} (hl : ws.length = is.length) (s : St c ρ n (is ++ ds) σ H (ws ++ vs)) : ∃ L B, StX c L B (frz is ρ) n ds σ H vs ∧ RA K c.g (Mo c (L ++ B)) H ws (is.map I.val) := by
  have s1 := St.frzs hl s
  have em : is.map fv = (is.map I.val).map I.v := by rw [List.map_map]; rfl
  rw [em] at s1
  have main : ∀ {es : List D} {ws : List V}, ws.length = es.length → St c (frz is ρ) n (es.map I.v ++ ds) σ H (ws ++ vs) → ∃ L B, StX c L B (frz is ρ) n ds σ H vs ∧ RA K c.g (Mo c (L ++ B)) H ws es := by
    intro es
    induction es with
    | nil => intro ws hl s; cases ws with
      | nil => obtain ⟨L, B, s⟩ := s; exact ⟨L, B, s, .nil⟩
      | cons _ _ => cases hl
    | cons e es ih =>
      intro ws hl s
      cases ws with
      | nil => cases hl
      | cons w ws =>
        obtain ⟨L, B, s⟩ := s
        have s' := s
        cases hit : s.it with
        | cons a b =>
          cases a with
          | v r =>
            have s2 : StX c L _ (frz is ρ) n (es.map I.v ++ ds) σ H (ws ++ vs) := ⟨s.sl, b, s.nd, s.fr, s.kp, s.hat, s.mg, s.ml, s.md⟩
            have hl2 : ws.length = es.length := by simpa using hl
            -- the same owners all along
            have q := StX.vals (L := L ++ _) hl2 s2.it
            exact ⟨L, _, ⟨s2.sl, IRs.dropV hl2 s2.it, s2.nd, s2.fr, s2.kp, s2.hat, s2.mg, s2.ml, s2.md⟩, .cons r q⟩
  exact main (by rw [List.length_map]; exact hl) s1
theorem tup_ {t : TA} (h : GA c ρ n ds t fun its ρ1 n1 => Nat.ble its.length 100000 = true ∧ Q (.v (.tup (its.map I.val))) (frz its ρ1) n1) : GE c ρ n ds (tTup t) Q := fun σ H vs F s k =>
  h σ H vs _ s fun its ρ1 n1 xs H1 q1 hl s1 => by
    refine ⟨Nat.le_trans (by rw [hl]; exact Nat.le_of_ble_eq_true q1.1) (by decide), fun p hp => ?_⟩
    obtain ⟨L, B, s2, r⟩ := items hl s1
    exact k _ _ _ _ _ q1.2 ⟨L, B, s2.pushT hp r⟩
theorem lst_ {t : TA} (h : GA c ρ n ds t fun its ρ1 n1 => Nat.ble its.length 100000 = true ∧ Q (.o (.lst (its.map I.val))) (frz its ρ1) n1) : GE c ρ n ds (tLst t) Q := fun σ H vs F s k =>
  h σ H vs _ s fun its ρ1 n1 xs H1 q1 hl s1 => by
    refine ⟨Nat.le_trans (by rw [hl]; exact Nat.le_of_ble_eq_true q1.1) (by decide), fun p hp => ?_⟩
    obtain ⟨L, B, s2, r⟩ := items hl s1
    exact k _ _ _ _ _ q1.2 ⟨L, _, s2.pushO hp r⟩
/-! ### tests -/
theorem test_ {te : TE} (h : GE c ρ n ds te fun it ρ' n' => ∃ b, it = .v (.bl b) ∧ QB b ρ' n') : GT c ρ n ds (tTest te) QB := fun σ H vs F s k =>
  h σ H vs _ s fun it ρ' n' v H' ⟨b, e, q⟩ s' => by
    subst e
    obtain ⟨L, B, s'⟩ := s'
    cases s'.val
    exact ⟨b, rfl, k _ _ _ _ q (St.pop ⟨L, B, s'⟩)⟩
theorem b_ {te : TE} (h : GE c ρ n ds te fun it ρ' n' => ∃ b, it = .v (.bl b) ∧ QB b ρ' n') : GT c ρ n ds (tB te) QB := test_ h
theorem and_ {t u : TT} (h : GT c ρ n ds t fun b ρ' n' => if b = true then GT c ρ' n' ds u QB else QB false ρ' n') : GT c ρ n ds (tAnd t u) QB := fun σ H vs F s k =>
  h σ H vs _ s fun b ρ' n' H' q s' => by
    cases b with
    | true => rw [if_pos rfl] at q ⊢; exact q σ H' vs F s' k
    | false => rw [if_neg Bool.false_ne_true] at q ⊢; exact k _ _ _ _ q s'
theorem or_ {t u : TT} (h : GT c ρ n ds t fun b ρ' n' => if b = true then QB true ρ' n' else GT c ρ' n' ds u QB) : GT c ρ n ds (tOr t u) QB := fun σ H vs F s k =>
  h σ H vs _ s fun b ρ' n' H' q s' => by
    cases b with
    | true => rw [if_pos rfl] at q ⊢; exact k _ _ _ _ q s'
    | false => rw [if_neg Bool.false_ne_true] at q ⊢; exact q σ H' vs F s' k
theorem not_ {t : TT} (h : GT c ρ n ds t fun b ρ' n' => QB (!b) ρ' n') : GT c ρ n ds (tNot t) QB := fun σ H vs F s k => h σ H vs _ s fun b ρ' n' H' q s' => k _ _ _ _ q s'
theorem yes_ (h : QB true ρ n) : GT c ρ n ds tYes QB := fun σ H vs F s k => k _ _ _ _ h s
theorem andV_ {ta tb : TE} (h : GE c ρ n ds ta fun it ρ' n' => ∃ b, it = .v (.bl b) ∧ if b = true then GE c ρ' n' ds tb Q else Q (.v (.bl false)) ρ' n') : GE c ρ n ds (tAndV ta tb) Q := fun σ H vs F s k =>
  h σ H vs _ s fun it ρ' n' v H' ⟨b, e, q⟩ s' => by
    subst e
    obtain ⟨L, B, s'⟩ := s'
    cases s'.val
    have s2 := St.pop ⟨L, B, s'⟩
    refine ⟨b, rfl, ?_⟩
    cases b with
    | true => rw [if_pos rfl] at q ⊢; exact q σ H' vs F s2 k
    | false => rw [if_neg Bool.false_ne_true] at q ⊢; exact k _ _ _ _ _ q (s2.pushS rfl)
theorem orV_ {ta tb : TE} (h : GE c ρ n ds ta fun it ρ' n' => ∃ b, it = .v (.bl b) ∧ if b = true then Q (.v (.bl true)) ρ' n' else GE c ρ' n' ds tb Q) : GE c ρ n ds (tOrV ta tb) Q := fun σ H vs F s k =>
  h σ H vs _ s fun it ρ' n' v H' ⟨b, e, q⟩ s' => by
    subst e
    obtain ⟨L, B, s'⟩ := s'
    cases s'.val
    have s2 := St.pop ⟨L, B, s'⟩
    refine ⟨b, rfl, ?_⟩
    cases b with
    | true => rw [if_pos rfl] at q ⊢; exact k _ _ _ _ _ q (s2.pushS rfl)
    | false => rw [if_neg Bool.false_ne_true] at q ⊢; exact q σ H' vs F s2 k
theorem notV_ {ta : TE} (h : GE c ρ n ds ta fun it ρ' n' => ∃ b, it = .v (.bl b) ∧ Q (.v (.bl (!b))) ρ' n') : GE c ρ n ds (tNotV ta) Q := fun σ H vs F s k =>
  h σ H vs _ s fun it ρ' n' v H' ⟨b, e, q⟩ s' => by
    subst e
    obtain ⟨L, B, s'⟩ := s'
    cases s'.val
    exact ⟨b, rfl, k _ _ _ _ _ q ((St.pop ⟨L, B, s'⟩).pushS rfl)⟩
theorem if_ {t : TT} {ta tb : TE} (h : GT c ρ n ds t fun b ρ' n' => if b = true then GE c ρ' n' ds ta Q else GE c ρ' n' ds tb Q) : GE c ρ n ds (tIf t ta tb) Q := fun σ H vs F s k =>
  h σ H vs _ s fun b ρ' n' H' q s' => by
    cases b with
    | true => rw [if_pos rfl] at q ⊢; exact q σ H' vs F s' k
    | false => rw [if_neg Bool.false_ne_true] at q ⊢; exact q σ H' vs F s' k
/-! ### targets -/
def clean (ds : List I) : Bool := ds.all fun i => !isB i
theorem IRs.clean {g : Addr} {M : Addr → Prop} {H : Hp} {σ σ' : L2.St} {ρ ρ' : List S} : ∀ {ds : List I} {l : List Addr} {w : List V}, clean ds = true → IRs K g M H ρ σ ds l w → IRs K g M H ρ' σ' ds l w
  | _, _, _, _, .nil => .nil
  | _, _, _, k, .cons a b => by
    simp only [HD.clean, List.all_cons, Bool.and_eq_true] at k
    refine .cons ?_ (IRs.clean k.2 b)
    cases a with
    | v r => exact .v r
    | o r => exact .o r
    | b _ _ => cases k.1
/-- what is stored in a slot -/
def put (i : Nat) (ρ : List S) : I → List S
  | .v d => ρ.set i (.v d)
  | .o d => ρ.set i (.ow d)
  | .b j d => (frz1 ρ (.b j d)).set i (.v d)
theorem StX.setV {L B : List Addr} {σ : L2.St} {H : Hp} {vs : List V} {v : V} {d : D} {i : Nat} (hc : clean ds = true) (hi : i < ρ.length) (s : StX c L B ρ n (.v d :: ds) σ H (v :: vs)) : ∃ L', StX c L' B (ρ.set i (.v d)) n ds (σ.set i (some v)) H vs := by
  have hv := s.val
  obtain ⟨sl, it, nd, fr, kp, hat, mg, ml, md⟩ := s
  cases it with
  | @cons _ l0 _ _ B2 _ a b =>
    cases a
    obtain ⟨L1, l, L2, x, e1, e2, e3, e4⟩ := sl.at (i := i) (s := ρ[i]) (List.getElem?_eq_getElem hi)
    subst e1
    have sub : ∀ b ∈ (L1 ++ ([] ++ L2)) ++ ([] ++ B2), b ∈ (L1 ++ (l ++ L2)) ++ ([] ++ B2) := fun b hb => by
      simp only [List.mem_append, List.nil_append] at hb ⊢
      rcases hb with (z | z) | z
      · exact .inl (.inl z)
      · exact .inl (.inr (.inr z))
      · exact .inr z
    have mv : Mv (Mo c ((L1 ++ (l ++ L2)) ++ ([] ++ B2))) (Mo c ((L1 ++ ([] ++ L2)) ++ ([] ++ B2))) H H := mv_less (mo_less sub)
    refine ⟨L1 ++ ([] ++ L2), (e4 (.v hv)).mv mv fun _ _ _ h => h, (b.mv mv fun _ _ _ h => h).clean hc, ?_, fun b hb => fr b (sub b hb), kp, hat, mg, ml, md⟩
    refine nd.sublist (List.Sublist.append ?_ (List.Sublist.refl _))
    exact (List.Sublist.refl L1).append (List.sublist_append_right l L2)
theorem StX.setO {L B : List Addr} {σ : L2.St} {H : Hp} {vs : List V} {v : V} {xs : D} {i : Nat} (hc : clean ds = true) (hi : i < ρ.length) (s : StX c L B ρ n (.o xs :: ds) σ H (v :: vs)) : ∃ L' B', StX c L' B' (ρ.set i (.ow xs)) n ds (σ.set i (some v)) H vs := by
  obtain ⟨sl, it, nd, fr, kp, hat, mg, ml, md⟩ := s
  cases it with
  | @cons _ l0 _ _ B2 _ a b =>
    cases a with
    | @o a _ ra =>
    obtain ⟨L1, l, L2, x, e1, e2, e3, e4⟩ := sl.at (i := i) (s := ρ[i]) (List.getElem?_eq_getElem hi)
    subst e1
    have sub : ∀ b ∈ (L1 ++ ([a] ++ L2)) ++ B2, b ∈ (L1 ++ (l ++ L2)) ++ ([a] ++ B2) := fun b hb => by
      simp only [List.mem_append, List.mem_singleton] at hb ⊢
      rcases hb with (z | z | z) | z
      · exact .inl (.inl z)
      · exact .inr (.inl z)
      · exact .inl (.inr (.inr z))
      · exact .inr (.inr z)
    have mv : Mv (Mo c ((L1 ++ (l ++ L2)) ++ ([a] ++ B2))) (Mo c ((L1 ++ ([a] ++ L2)) ++ B2)) H H := mv_less (mo_less sub)
    refine ⟨L1 ++ ([a] ++ L2), B2, (e4 (.ow ra)).mv mv fun _ _ _ h => h, (b.mv mv fun _ _ _ h => h).clean hc, ?_, fun b hb => fr b (sub b hb), kp, hat, mg, ml, md⟩
    have n1 : ((L1 ++ L2) ++ (a :: B2)).Nodup := nd.sublist (List.Sublist.append ((List.Sublist.refl L1).append (List.sublist_append_right l L2)) (List.Sublist.refl _))
    have p : ((L1 ++ ([a] ++ L2)) ++ B2).Perm ((L1 ++ L2) ++ (a :: B2)) := by
      have p1 : ((L1 ++ ([a] ++ L2)) ++ B2).Perm (a :: ((L1 ++ L2) ++ B2)) := by
        rw [show L1 ++ ([a] ++ L2) = L1 ++ a :: L2 from rfl, List.append_assoc, List.append_assoc]
        exact List.perm_middle
      exact p1.trans List.perm_middle.symm
    exact p.nodup_iff.mpr n1
theorem gname_ {i : Nat} {it : I} (hc : clean ds = true) (hi : Nat.blt i ρ.length = true) (h : QG (put i ρ it) n) : GG c ρ n ds (gName i) it QG := fun σ H vs v F s k => by
  have hi : i < ρ.length := Nat.le_of_ble_eq_true hi
  cases it with
  | v d =>
    obtain ⟨L, B, s⟩ := s
    obtain ⟨L', s⟩ := s.setV hc hi
    exact k _ _ _ _ h ⟨L', B, s⟩
  | o xs =>
    obtain ⟨L, B, s⟩ := s
    obtain ⟨L', B', s⟩ := s.setO hc hi
    exact k _ _ _ _ h ⟨L', B', s⟩
  | b j xs =>
    obtain ⟨L, B, s⟩ := s.frz1
    have hi2 : i < (frz1 ρ (.b j xs)).length := by
      unfold frz1
      dsimp only
      split
      · rw [List.length_set]; exact hi
      · rw [List.length_set]; exact hi
      · exact hi
    obtain ⟨L', s⟩ := s.setV hc hi2
    exact k _ _ _ _ h ⟨L', B, s⟩
theorem gnil_ (h : QG ρ n) : GGs c ρ n ds gNil [] QG := fun σ H vs xs F hl s k => by
  cases xs with
  | nil => exact ⟨rfl, k _ _ _ _ h s⟩
  | cons _ _ => cases hl
theorem gcons_ {g : TG} {gs : TGs} {it : I} {its : List I} (h : GG c ρ n (its ++ ds) g it fun ρ1 n1 => GGs c ρ1 n1 ds gs its QG) : GGs c ρ n ds (gCons g gs) (it :: its) QG := fun σ H vs xs F hl s k => by
  cases xs with
  | nil => cases hl
  | cons x xs =>
    refine ⟨x, xs, rfl, ?_⟩
    exact h σ H (xs ++ vs) x _ s fun ρ1 n1 σ1 H1 q s1 => q σ1 H1 vs xs F (by simpa using hl) s1 k
theorem St.elems {σ : L2.St} {H : Hp} {vs : List V} {L B : List Addr} : ∀ {ws : List V} {xs : List D}, StX c L B ρ n ds σ H vs → RA K c.g (Mo c (L ++ B)) H ws xs → StX c L B ρ n (xs.map I.v ++ ds) σ H (ws ++ vs)
  | _, _, s, .nil => s
  | _, _, s, .cons a b => (St.elems s b).pushR a
theorem gtup_ {m : Nat} {gs : TGs} {xs : List D} (hl : xs.length = m) (h : GGs c ρ n ds gs (xs.map I.v) QG) : GG c ρ n ds (gTup K m gs) (.v (.tup xs)) QG := fun σ H vs v F ⟨L, B, s⟩ k => by
  cases s.val with
  | @tup a ws _ hs ra =>
    obtain ⟨B', s2⟩ := s.pop
    have s0 : St c ρ n ds σ H vs := St.pop ⟨L, B, s⟩
    refine ⟨a, ws, rfl, hs.sqt, by rw [ra.len, hl], ?_⟩
    have s3 : StX c L B ρ n ds σ H vs := by
      cases hit : s.it with
      | cons a b => cases a; exact ⟨s.sl, b, s.nd, s.fr, s.kp, s.hat, s.mg, s.ml, s.md⟩
    exact h σ H vs ws F (by rw [ra.len, List.length_map]) ⟨L, B, St.elems s3 ra⟩ k
theorem StX.lsp {σ : L2.St} {H : Hp} {vs : List V} {v : V} {L B : List Addr} {it : I} {xs : List D} (s : StX c L B ρ n (it :: ds) σ H (v :: vs)) (e : it.val = .lst xs) : ∃ a ws B', v = .ref a ∧ H a = some (.lst ws) ∧ StX c L B' ρ n ds σ H vs ∧ RA K c.g (Mo c (L ++ B')) H ws xs := by
  obtain ⟨a, ws, e1, e2, e3⟩ := s.ls e
  cases hit : s.it with
  | @cons _ l _ _ B2 _ x b =>
    have sub : ∀ b ∈ L ++ B2, b ∈ L ++ (l ++ B2) := fun b hb => by
      simp only [List.mem_append] at hb ⊢
      rcases hb with z | z
      · exact .inl z
      · exact .inr (.inr z)
    have mv : Mv (Mo c (L ++ (l ++ B2))) (Mo c (L ++ B2)) H H := mv_less (mo_less sub)
    exact ⟨a, ws, B2, e1, e2, ⟨s.sl.mv mv fun _ _ _ h => h, b.mv mv fun _ _ _ h => h, s.nd.sublist ((List.Sublist.refl L).append (List.sublist_append_right l B2)), fun b hb => s.fr b (sub b hb), s.kp, s.hat, s.mg, s.ml, s.md⟩, e3.mv mv⟩
theorem gunl_ {m : Nat} {gs : TGs} {it : I} {xs : List D} (e : it.val = .lst xs) (hl : xs.length = m) (h : GGs c ρ n ds gs (xs.map I.v) QG) : GG c ρ n ds (gUnl K m gs) it QG := fun σ H vs v F ⟨L, B, s⟩ k => by
  obtain ⟨a, ws, B', e1, e2, s2, ra⟩ := s.lsp e
  exact ⟨a, ws, e1, SqL.of e2, by rw [ra.len, hl], h σ H vs ws F (by rw [ra.len, List.length_map]) ⟨L, B', St.elems s2 ra⟩ k⟩
theorem par_ {i j : Nat} {ta : TA} {nx bk ct : QS} {rt : I → Nat → Prop} (h : GA c ρ n ds ta fun its ρ' n' => ∃ a b, its = [a, b] ∧ GG c ρ' n' (b :: ds) (gName i) a fun ρ2 n2 => GG c ρ2 n2 ds (gName j) b nx) : GS c ρ n ds (tPar i j ta) ⟨nx, rt, bk, ct⟩ := fun σ H vs E s k =>
  h σ H vs _ s fun its ρ' n' xs H' ⟨a, b, e, q⟩ hl s' => by
    subst e
    match xs, hl with
    | [x, y], _ => exact ⟨x, y, rfl, q σ H' (y :: vs) x (fun σ1 H1 => E.nx (σ1.set j (some y)) H1) s' fun ρ2 n2 σ2 H2 q2 s2 => q2 σ2 H2 vs y E.nx s2 fun ρ3 n3 σ3 H3 q3 s3 => k.nx _ _ _ _ q3 s3⟩
theorem par3_ {i j l : Nat} {ta : TA} {nx bk ct : QS} {rt : I → Nat → Prop} (h : GA c ρ n ds ta fun its ρ' n' => ∃ a b d, its = [a, b, d] ∧ GG c ρ' n' (b :: d :: ds) (gName i) a fun ρ2 n2 => GG c ρ2 n2 (d :: ds) (gName j) b fun ρ3 n3 => GG c ρ3 n3 ds (gName l) d nx) : GS c ρ n ds (tPar3 i j l ta) ⟨nx, rt, bk, ct⟩ := fun σ H vs E s k =>
  h σ H vs _ s fun its ρ' n' xs H' ⟨a, b, d, e, q⟩ hl s' => by
    subst e
    match xs, hl with
    | [x, y, z], _ => exact ⟨x, y, z, rfl, q σ H' (y :: z :: vs) x (fun σ1 H1 => E.nx ((σ1.set j (some y)).set l (some z)) H1) s' fun ρ2 n2 σ2 H2 q2 s2 => q2 σ2 H2 (z :: vs) y (fun σ1 H1 => E.nx (σ1.set l (some z)) H1) s2 fun ρ3 n3 σ3 H3 q3 s3 => q3 σ3 H3 vs z E.nx s3 fun ρ4 n4 σ4 H4 q4 s4 => k.nx _ _ _ _ q4 s4⟩
/-! ### calls of defs -/
abbrev XD := Addr → Option (List (Str × D)) → Nat → Prop
abbrev SpD := List D → Nat → (I → Nat → Prop) → XD → Prop
def XR (c : Wd K) (H : Hp) : Option Addr → Option (List (Str × D)) → Prop
  | none, none => True
  | some d, some fs => ∃ fv, ¬ c.M0 d ∧ H d = some (.xd fv) ∧ RF K c.g c.M0 H fv fs
  | _, _ => False
structure CallOk (c : Wd K) (H : Hp) (n : Nat) (vs : List V) (ds : List D) (Q : VK) (E : XK) (Qd : I → Nat → Prop) (Ed : XD) : Prop where
  h0 : c.H0 = H
  hat : Hat H c.g c.k c.ns n
  mg : c.M0 c.g
  ml : c.M0 c.k
  md : ∀ a, c.M0 a → ∃ o, H a = some o
  ra : RA K c.g c.M0 H vs ds
  q : ∀ it n' v H', Qd it n' → Kept c.g H H' → Hat H' c.g c.k c.ns n' → Rt c H' v it → Q v H'
  e : ∀ C fs n' x H', Ed C fs n' → Kept c.g H H' → Hat H' c.g c.k c.ns n' → XR c H' x fs → E (.ref C) x H'
def lift (K : PySem.W.Frag) (sp : SpD) : Sp := fun vs H Q E => ∃ (c : Wd K) (n : Nat) (ds : List D) (Qd : I → Nat → Prop) (Ed : XD), CallOk c H n vs ds Q E Qd Ed ∧ sp ds n Qd Ed
theorem enter {H : Hp} {vs : List V} {ds : List D} {Q : VK} {E : XK} {Qd : I → Nat → Prop} {Ed : XD} {t : TS} {N : List Str} (k : CallOk c H n vs ds Q E Qd Ed) (e : ds.map S.v ++ List.replicate (N.length - ds.length) S.un = ρ)
    (h : GS c ρ n [] t ⟨fun _ n' => Qd (.v .non) n', Qd, fun _ _ => False, fun _ _ => False⟩) : t { nx := fun _ H' => Q .non H', rt := Q } (L2.start N vs) H := by
  have hl := k.ra.len
  refine h (L2.start N vs) H [] _ ⟨[], [], ?_, .nil, .nil, fun a h => (by cases h), ?_, k.hat, k.mg, k.ml, fun a h => (by rw [k.h0]; exact k.md a h)⟩ ⟨fun ρ n σ H q ⟨L, B, s⟩ => ?_, fun it n v H q k1 k2 k3 => ?_, fun _ _ _ _ q => q.elim, fun _ _ _ _ q => q.elim⟩
  · rw [← e]
    unfold L2.start
    rw [hl]
    have m : Mo c (([] : List Addr) ++ []) = c.M0 := by
      funext a
      exact propext ⟨fun z => z.elim id (fun z => by cases z), .inl⟩
    rw [m]
    have ra := k.ra
    clear k e h hl
    have un : ∀ m : Nat, SRs K c.g c.M0 H (List.replicate m S.un) [] (List.replicate m none) := fun m => by
      induction m with
      | zero => exact .nil
      | succ m ih => exact .cons (l := []) (.un _) ih
    generalize N.length - ds.length = m
    have go : ∀ {vs : List V} {ds : List D}, RA K c.g c.M0 H vs ds → SRs K c.g c.M0 H (ds.map S.v ++ List.replicate m S.un) [] (vs.map some ++ List.replicate m none) := by
      intro vs ds ra
      induction ds generalizing vs with
      | nil => cases ra; exact un m
      | cons d ds ih => cases ra with | cons a b => exact .cons (l := []) (.v a) (ih b)
    exact go ra
  · rw [k.h0]; exact Kept.refl _ _
  · exact k.q _ _ _ _ q (by have := s.kp; rw [k.h0] at this; exact this) s.hat .non
  · exact k.q _ _ _ _ q (by rw [k.h0] at k1; exact k1) k2 k3
theorem call_ {sp : SpD} {t : TA} (h : GA c ρ n ds t fun its ρ' n' => sp (its.map I.val) n' (fun it n2 => Q it (frz its ρ') n2) fun _ _ _ => False) : GE c ρ n ds (tCall (lift K sp) [] E0 t) Q := fun σ H vs F s k =>
  h σ H vs _ s fun its ρ' n' xs H' q hl s' => by
    obtain ⟨L, B, s2, ra⟩ := items hl s'
    rw [List.append_nil]
    refine ⟨⟨c.g, c.k, c.ns, Mo c (L ++ B), H'⟩, n', _, _, _, ⟨rfl, s2.hat, .inl s2.mg, .inl s2.ml, s2.at, ra, fun it m v H2 q2 k2 h2 r2 => ?_, fun C fs n' x H' z => z.elim⟩, q⟩
    have s3 := s2.kept k2 h2
    cases it with
    | v d => exact k _ _ _ _ _ q2 ⟨L, B, s3.pushR r2⟩
    | b _ _ => exact r2.elim
    | o ys =>
      obtain ⟨p, rfl, hp, np, rr⟩ := r2
      have hp : H' p = none := hp
      have np : ¬ Mo c (L ++ B) p := np
      have npl : p ∉ L ++ B := fun z => np (.inr z)
      have hc : c.H0 p = none := by
        cases z : c.H0 p with
        | none => rfl
        | some o =>
          have : p ≠ c.g := fun e => np (.inl (e ▸ s2.mg))
          have := s2.kp _ _ this z
          rw [hp] at this; cases this
      have mv : Mv (Mo c (L ++ B)) (Mo c (L ++ ([p] ++ B))) H' H2 := fun a o na ho => by
        have ng : a ≠ c.g := fun e => na (.inl (e ▸ s2.mg))
        refine ⟨fun z => ?_, k2 a o ng ho⟩
        rcases z with z | z
        · exact na (.inl z)
        · simp only [List.mem_append, List.mem_singleton] at z
          rcases z with z | z | z
          · exact na (.inr (List.mem_append_left _ z))
          · rw [z, hp] at ho; cases ho
          · exact na (.inr (List.mem_append_right _ z))
      have hk : ∀ a ∈ L ++ B, ∀ o, H' a = some o → H2 a = some o := fun a ha o ho => k2 a o (fun z => (s2.fr a ha).1 (z ▸ s2.mg)) ho
      refine k _ _ _ _ _ q2 ⟨L, [p] ++ B, s2.sl.mv mv fun a ha => hk a (List.mem_append_left _ ha), .cons (l := [p]) (.o (rr.mv (mv_less fun a ha => ?_) fun _ h => h)) (s2.it.mv mv fun a ha => hk a (List.mem_append_right _ ha)), ?_, fun a ha => ?_, s3.kp, s3.hat, s3.mg, s3.ml, s3.md⟩
      · rcases ha with ha | ha
        · exact .inl (.inl ha)
        · simp only [List.mem_append, List.mem_singleton] at ha
          rcases ha with z | z | z
          · exact .inl (.inr (List.mem_append_left _ z))
          · exact .inr z
          · exact .inl (.inr (List.mem_append_right _ z))
      · exact (List.perm_middle (a := p) (l₁ := L) (l₂ := B)).nodup_iff.mpr (List.nodup_cons.mpr ⟨npl, s2.nd⟩)
      · simp only [List.mem_append, List.mem_singleton] at ha
        rcases ha with z | z | z
        · exact s2.fr a (List.mem_append_left _ z)
        · rw [z]; exact ⟨fun q => np (.inl q), hc⟩
        · exact s2.fr a (List.mem_append_right _ z)
end
end HD
/-! loops and comprehensions -/
namespace HD
open PySem PySem.Spec PyProof.Rows L2 HX
section
variable {K : PySem.W.Frag} {c : Wd K} {ρ : List S} {n : Nat} {ds : List I} {L B : List Addr} {σ : L2.St} {H H' : Hp} {vs : List V} {v : V} {p : Addr}
theorem IRs.mid {g : Addr} {M : Addr → Prop} {it : I} : ∀ {ex : List I} {ews : List V} {ds : List I} {vs : List V} {B : List Addr} {w : V}, ews.length = ex.length → IRs K g M H ρ σ (ex ++ it :: ds) B (ews ++ w :: vs) → ∃ l, IR K g M H ρ σ it l w
  | [], [], _, _, _, _, _, h => by cases h with | cons a b => exact ⟨_, a⟩
  | e :: ex, w :: ws, _, _, _, _, hl, h => by cases h with | cons a b => exact IRs.mid (by simpa using hl) b
theorem StX.peek {ex : List I} {ews : List V} {d : D} {w : V} (hl : ews.length = ex.length) (s : StX c L B ρ n (ex ++ .v d :: ds) σ H (ews ++ w :: vs)) : R K c.g (Mo c (L ++ B)) H w d := by
  obtain ⟨l, h⟩ := s.it.mid hl
  cases h with | v r => exact r
theorem mv_own {l : List Addr} {a : Addr} {o : HO} (ha : a ∈ l) : Mv (Mo c l) (Mo c l) H (upd H a o) := fun b u nb hb => ⟨nb, by
  have : b ≠ a := fun e => nb (.inr (by rw [e]; exact ha))
  rw [upd_ne this]; exact hb⟩
/-- the topmost item is a thing of nobody's: it is changed -/
theorem StX.wrO {d : D} (s : StX c L B ρ n (.o d :: ds) σ H (v :: vs)) : ∃ a, v = .ref a ∧ RO K c.g (Mo c (L ++ B)) H a d ∧ ∀ {t : D} {o : HO}, (Mv (Mo c (L ++ B)) (Mo c (L ++ B)) H (upd H a o) → RO K c.g (Mo c (L ++ B)) (upd H a o) a t) → StX c L B ρ n (.o t :: ds) σ (upd H a o) (v :: vs) := by
  cases hit : s.it with
  | @cons _ l _ _ B2 _ x b =>
    cases x with
    | @o a _ ra =>
      refine ⟨a, rfl, ra, fun {t o} r => ?_⟩
      have hm : a ∈ L ++ ([a] ++ B2) := by simp
      have mv : Mv (Mo c (L ++ ([a] ++ B2))) (Mo c (L ++ ([a] ++ B2))) H (upd H a o) := mv_own hm
      have nd := (List.nodup_cons.mp ((List.perm_middle (a := a) (l₁ := L) (l₂ := B2)).nodup_iff.mp s.nd)).1
      have hk : ∀ b ∈ L ++ B2, ∀ u, H b = some u → (upd H a o) b = some u := fun b hb u ho => by
        have : b ≠ a := fun e => nd (by rw [← e]; exact hb)
        rw [upd_ne this]; exact ho
      have hag : a ≠ c.g := fun e => (s.fr a hm).1 (e ▸ s.mg)
      have hak : a ≠ c.k := fun e => (s.fr a hm).1 (e ▸ s.ml)
      refine ⟨s.sl.mv mv fun b hb => hk b (List.mem_append_left _ hb), .cons (l := [a]) (.o (r mv)) (b.mv mv fun b hb => hk b (List.mem_append_right _ hb)), s.nd, s.fr, ?_, s.hat.upd hag hak, s.mg, s.ml, s.md⟩
      exact fun b u nb hb => by
        have : b ≠ a := fun e => by have := (s.fr a hm).2; rw [← e, hb] at this; cases this
        rw [upd_ne this]
        exact s.kp b u nb hb
/-- what slot i owns is changed -/
theorem StX.wrS {i : Nat} {d : D} (hc : clean ds = true) (s : StX c L B ρ n ds σ H vs) (hi : ρ[i]? = some (.ow d)) : ∃ a, σ[i]? = some (some (.ref a)) ∧ RO K c.g (Mo c (L ++ B)) H a d ∧ ∀ {t : D} {o : HO}, (Mv (Mo c (L ++ B)) (Mo c (L ++ B)) H (upd H a o) → RO K c.g (Mo c (L ++ B)) (upd H a o) a t) → StX c L B (ρ.set i (.ow t)) n ds σ (upd H a o) vs := by
  have hl : i < ρ.length := (List.getElem?_eq_some_iff.mp hi).1
  obtain ⟨L1, l, L2, x, e1, e2, e3, e4⟩ := s.sl.atM hi
  cases e3 with
  | @ow a _ ra =>
    subst e1
    refine ⟨a, e2, ra, fun {t o} r => ?_⟩
    have hm : a ∈ (L1 ++ ([a] ++ L2)) ++ B := by simp
    have mv : Mv (Mo c ((L1 ++ ([a] ++ L2)) ++ B)) (Mo c ((L1 ++ ([a] ++ L2)) ++ B)) H (upd H a o) := mv_own hm
    have pm : ((L1 ++ ([a] ++ L2)) ++ B).Perm (a :: ((L1 ++ L2) ++ B)) := by
      rw [show L1 ++ ([a] ++ L2) = L1 ++ a :: L2 from rfl, List.append_assoc, List.append_assoc]
      exact List.perm_middle
    have nd := (List.nodup_cons.mp (pm.nodup_iff.mp s.nd)).1
    have hk : ∀ b ∈ (L1 ++ L2) ++ B, ∀ u, H b = some u → (upd H a o) b = some u := fun b hb u ho => by
      have : b ≠ a := fun e => nd (by rw [← e]; exact hb)
      rw [upd_ne this]; exact ho
    have hag : a ≠ c.g := fun e => (s.fr a hm).1 (e ▸ s.mg)
    have hak : a ≠ c.k := fun e => (s.fr a hm).1 (e ▸ s.ml)
    have sl1 := e4 (l' := [a]) mv (fun b hb => hk b (List.mem_append_left _ hb)) (SR.ow (r mv))
    rw [show σ.set i (some (V.ref a)) = σ by
      obtain ⟨h1, h2⟩ := List.getElem?_eq_some_iff.mp e2
      rw [← h2, List.set_getElem_self]] at sl1
    refine ⟨sl1, (s.it.mv mv fun b hb => hk b (List.mem_append_right _ hb)).clean hc, s.nd, s.fr, ?_, s.hat.upd hag hak, s.mg, s.ml, s.md⟩
    exact fun b u nb hb => by
      have : b ≠ a := fun e => by have := (s.fr a hm).2; rw [← e, hb] at this; cases this
      rw [upd_ne this]
      exact s.kp b u nb hb
/-- the object itself is changed -/
theorem StX.wrM {i : Nat} {a : Addr} {d : D} (hc : clean ds = true) (s : StX c L B ρ n ds σ H vs) (hi : ρ[i]? = some (.me a d)) : σ[i]? = some (some (.ref a)) ∧ RO K c.g (Mo c (L ++ B)) H a d ∧ ∀ {t : D} {o : HO}, (Mv (Mo c (L ++ B)) (Mo c (L ++ B)) H (upd H a o) → RO K c.g (Mo c (L ++ B)) (upd H a o) a t) → StX c L B (ρ.set i (.me a t)) n ds σ (upd H a o) vs := by
  have hl : i < ρ.length := (List.getElem?_eq_some_iff.mp hi).1
  obtain ⟨L1, l, L2, x, e1, e2, e3, e4⟩ := s.sl.atM hi
  cases e3 with
  | me ra =>
    subst e1
    refine ⟨e2, ra, fun {t o} r => ?_⟩
    have hm : a ∈ (L1 ++ ([a] ++ L2)) ++ B := by simp
    have mv : Mv (Mo c ((L1 ++ ([a] ++ L2)) ++ B)) (Mo c ((L1 ++ ([a] ++ L2)) ++ B)) H (upd H a o) := mv_own hm
    have pm : ((L1 ++ ([a] ++ L2)) ++ B).Perm (a :: ((L1 ++ L2) ++ B)) := by
      rw [show L1 ++ ([a] ++ L2) = L1 ++ a :: L2 from rfl, List.append_assoc, List.append_assoc]
      exact List.perm_middle
    have nd := (List.nodup_cons.mp (pm.nodup_iff.mp s.nd)).1
    have hk : ∀ b ∈ (L1 ++ L2) ++ B, ∀ u, H b = some u → (upd H a o) b = some u := fun b hb u ho => by
      have : b ≠ a := fun e => nd (by rw [← e]; exact hb)
      rw [upd_ne this]; exact ho
    have hag : a ≠ c.g := fun e => (s.fr a hm).1 (e ▸ s.mg)
    have hak : a ≠ c.k := fun e => (s.fr a hm).1 (e ▸ s.ml)
    have sl1 := e4 (l' := [a]) mv (fun b hb => hk b (List.mem_append_left _ hb)) (SR.me (r mv))
    rw [show σ.set i (some (V.ref a)) = σ by
      obtain ⟨h1, h2⟩ := List.getElem?_eq_some_iff.mp e2
      rw [← h2, List.set_getElem_self]] at sl1
    refine ⟨sl1, (s.it.mv mv fun b hb => hk b (List.mem_append_right _ hb)).clean hc, s.nd, s.fr, ?_, s.hat.upd hag hak, s.mg, s.ml, s.md⟩
    exact fun b u nb hb => by
      have : b ≠ a := fun e => by have := (s.fr a hm).2; rw [← e, hb] at this; cases this
      rw [upd_ne this]
      exact s.kp b u nb hb
/-- what a walk yields while the pinned items stand -/
structure Wk (c : Wd K) (pin : List I) (ds : List I) (ws vs : List V) (J : It) (xs : List D) : Prop where
  go : ∀ (i : Nat) (ρ : List S) (n : Nat) (ex : List I) (σ : L2.St) (H : Hp) (ews : List V), i < xs.length → ews.length = ex.length → St c ρ n (ex ++ (pin ++ ds)) σ H (ews ++ (ws ++ vs)) → J.go i H
  yl : ∀ (i : Nat) (d : D) (ρ : List S) (n : Nat) (ex : List I) (σ : L2.St) (H : Hp) (ews : List V) (x : V) (H' : Hp), xs[i]? = some d → ews.length = ex.length → St c ρ n (ex ++ (pin ++ ds)) σ H (ews ++ (ws ++ vs)) → J.yld i H x H' → St c ρ n (.v d :: (ex ++ (pin ++ ds))) σ H' (x :: (ews ++ (ws ++ vs)))
  st : ∀ (ρ : List S) (n : Nat) (ex : List I) (σ : L2.St) (H : Hp) (ews : List V), ews.length = ex.length → St c ρ n (ex ++ (pin ++ ds)) σ H (ews ++ (ws ++ vs)) → J.stop xs.length H
def GI (c : Wd K) (ρ : List S) (n : Nat) (ds : List I) (wi : TI) (Q : List I → List D → QS) : Prop :=
  ∀ σ H vs (F : It → Hp → Prop), St c ρ n ds σ H vs → (∀ pin xs ρ' n' ws J H', Q pin xs ρ' n' → ws.length = pin.length → St c ρ' n' (pin ++ ds) σ H' (ws ++ vs) → Wk c pin ds ws vs J xs → F J H') → wi σ H F
theorem St.pops {ex : List I} {ews : List V} (hl : ews.length = ex.length) (s : St c ρ n (ex ++ ds) σ H (ews ++ vs)) : St c ρ n ds σ H vs := by
  induction ex generalizing ews with
  | nil => cases ews with
    | nil => exact s
    | cons _ _ => cases hl
  | cons e ex ih => cases ews with
    | nil => cases hl
    | cons w ews => exact ih (by simpa using hl) (St.pop s)
def ForD (c : Wd K) (ds : List I) (g : TG) (tb : TS) (Z : Es) : List D → QS
  | [] => Z.nx
  | x :: xs => fun ρ n => GG c ρ n ds g (.v x) fun ρ1 n1 => GS c ρ1 n1 ds tb ⟨ForD c ds g tb Z xs, Z.rt, Z.nx, ForD c ds g tb Z xs⟩
theorem for_ {wi : TI} {g : TG} {tb : TS} {nx bk ct : QS} {rt : I → Nat → Prop} (h : GI c ρ n ds wi fun pin xs ρ' n' => ForD c (pin ++ ds) g tb ⟨nx, rt, bk, ct⟩ xs ρ' n') : GS c ρ n ds (tFor wi g tb) ⟨nx, rt, bk, ct⟩ := fun σ H vs E s k =>
  h σ H vs _ s fun pin xs ρ' n' ws J H' q hl s' w => by
    refine ⟨fun i m σ H => m = xs.length - i ∧ i ≤ xs.length ∧ ∃ ρ n, ForD c (pin ++ ds) g tb ⟨nx, rt, bk, ct⟩ (xs.drop i) ρ n ∧ St c ρ n (pin ++ ds) σ H (ws ++ vs), ⟨xs.length, rfl, Nat.zero_le _, ρ', n', q, s'⟩, ?_⟩
    rintro i m σ H ⟨rfl, hi, ρ, n, f, s⟩
    by_cases hlt : i < xs.length
    · refine .inr ⟨w.go i ρ n [] σ H [] hlt rfl s, fun σ H => ∃ ρ n, ForD c (pin ++ ds) g tb ⟨nx, rt, bk, ct⟩ (xs.drop (i + 1)) ρ n ∧ St c ρ n (pin ++ ds) σ H (ws ++ vs), fun σ' H' ⟨ρ, n, f, s⟩ => ⟨_, by omega, rfl, hlt, ρ, n, f, s⟩, fun x H' y => ?_⟩
      have s2 := w.yl i xs[i] ρ n [] σ H [] x H' (List.getElem?_eq_getElem hlt) rfl s y
      rw [List.drop_eq_getElem_cons hlt] at f
      refine f σ H' (ws ++ vs) x _ s2 fun ρ1 n1 σ1 H1 q1 s1 => q1 σ1 H1 (ws ++ vs) _ s1 ⟨fun ρ n σ H q s => ⟨ρ, n, q, s⟩, k.rt, fun ρ n σ H q s => k.nx _ _ _ _ q (St.pops hl s), fun ρ n σ H q s => ⟨ρ, n, q, s⟩⟩
    · have e : i = xs.length := by omega
      subst e
      rw [List.drop_length] at f
      exact .inl ⟨w.st ρ n [] σ H [] rfl s, k.nx _ _ _ _ f (St.pops hl s)⟩
/-- a loop by its invariant -/
theorem ForD.inv {g : TG} {tb : TS} {Z : Es} {xs : List D} (P : Nat → QS) (h0 : P 0 ρ n) (hs : ∀ i x ρ n, xs[i]? = some x → i < xs.length → P i ρ n → GG c ρ n ds g (.v x) fun ρ1 n1 => GS c ρ1 n1 ds tb ⟨P (i + 1), Z.rt, Z.nx, P (i + 1)⟩) (hd : ∀ ρ n, P xs.length ρ n → Z.nx ρ n) : ForD c ds g tb Z xs ρ n := by
  have go : ∀ (k : Nat) (ρ : List S) (n : Nat), k ≤ xs.length → P k ρ n → ForD c ds g tb Z (xs.drop k) ρ n := by
    intro k
    generalize hm : xs.length - k = m
    induction m generalizing k with
    | zero =>
      intro ρ n hk p
      have : k = xs.length := by omega
      subst this
      rw [List.drop_length]
      exact hd _ _ p
    | succ m ih =>
      intro ρ n hk p
      have hlt : k < xs.length := by omega
      rw [List.drop_eq_getElem_cons hlt]
      intro σ H vs v F s kk
      refine hs k xs[k] ρ n (List.getElem?_eq_getElem hlt) hlt p σ H vs v F s fun ρ1 n1 σ1 H1 q s1 => kk _ _ _ _ (q.mono (fun ρ n z => ih (k + 1) (by omega) ρ n hlt z) (fun _ _ z => z) (fun _ _ z => z) (fun ρ n z => ih (k + 1) (by omega) ρ n hlt z)) s1
  exact go 0 ρ n (Nat.zero_le _) h0
theorem forN_ {g : TG} {tb : TS} {Z : Es} (h : Z.nx ρ n) : ForD c ds g tb Z [] ρ n := h
theorem forC_ {g : TG} {tb : TS} {Z : Es} {x : D} {xs : List D} (h : GG c ρ n ds g (.v x) fun ρ1 n1 => GS c ρ1 n1 ds tb ⟨ForD c ds g tb Z xs, Z.rt, Z.nx, ForD c ds g tb Z xs⟩) : ForD c ds g tb Z (x :: xs) ρ n := h
/-! ### what is walked -/
theorem ilst_ {te : TE} {Q : List I → List D → QS} (h : GE c ρ n ds te fun it ρ' n' => ∃ xs, it.val = .lst xs ∧ Q [.v (.lst xs)] xs (frz1 ρ' it) n') : GI c ρ n ds (iList K te) Q := fun σ H vs F s k =>
  h σ H vs _ s fun it ρ' n' v H' ⟨xs, e, q⟩ s' => by
    have s2 := s'.frz1
    rw [e] at s2
    obtain ⟨L, B, s3⟩ := s'
    obtain ⟨a, ws, rfl, ha, _⟩ := s3.ls e
    have main : ∀ {ρ : List S} {n : Nat} {ex : List I} {σ : L2.St} {H : Hp} {ews : List V}, ews.length = ex.length → St c ρ n (ex ++ ([.v (.lst xs)] ++ ds)) σ H (ews ++ ([.ref a] ++ vs)) → ∃ L B ws, StX c L B ρ n (ex ++ ([.v (.lst xs)] ++ ds)) σ H (ews ++ ([.ref a] ++ vs)) ∧ H a = some (.lst ws) ∧ RA K c.g (Mo c (L ++ B)) H ws xs := by
      intro ρ n ex σ H ews hl ⟨L, B, s⟩
      have := s.peek (d := .lst xs) (w := .ref a) hl
      cases this with
      | lst _ h r => exact ⟨L, B, _, s, h, r⟩
    refine ⟨a, rfl, ⟨ws, SqL.of ha⟩, k [.v (.lst xs)] xs _ n' [.ref a] _ H' q rfl s2 ⟨?_, ?_, ?_⟩⟩
    · intro i ρ n ex σ H ews hi hl s
      obtain ⟨L, B, ws, s, ha, r⟩ := main hl s
      have hi2 : i < ws.length := by rw [r.len]; exact hi
      exact ⟨ws, ws[i], SqL.of ha, List.getElem?_eq_getElem hi2⟩
    · intro i d ρ n ex σ H ews x H' hd hl s ⟨eH, y⟩
      obtain ⟨L, B, ws, s, ha, r⟩ := main hl s
      subst eH
      obtain ⟨w, hw, rw'⟩ := r.at hd
      have := y ws (SqL.of ha)
      rw [hw] at this
      cases this
      exact ⟨L, B, s.pushR rw'⟩
    · intro ρ n ex σ H ews hl s
      obtain ⟨L, B, ws, s, ha, r⟩ := main hl s
      exact ⟨ws, SqL.of ha, by rw [r.len]; exact Nat.le_refl _⟩
theorem itup_ {te : TE} {Q : List I → List D → QS} (h : GE c ρ n ds te fun it ρ' n' => ∃ xs, it = .v (.tup xs) ∧ Q [.v (.tup xs)] xs ρ' n') : GI c ρ n ds (iTup K te) Q := fun σ H vs F s k =>
  h σ H vs _ s fun it ρ' n' v H' ⟨xs, e, q⟩ s' => by
    subst e
    have s2 := s'
    obtain ⟨L, B, s3⟩ := s'
    cases s3.val with
    | @tup a ws _ ha ra =>
    have main : ∀ {ρ : List S} {n : Nat} {ex : List I} {σ : L2.St} {H : Hp} {ews : List V}, ews.length = ex.length → St c ρ n (ex ++ ([.v (.tup xs)] ++ ds)) σ H (ews ++ ([.ref a] ++ vs)) → ∃ L B ws, StX c L B ρ n (ex ++ ([.v (.tup xs)] ++ ds)) σ H (ews ++ ([.ref a] ++ vs)) ∧ SqT K H a ws ∧ RA K c.g (Mo c (L ++ B)) H ws xs := by
      intro ρ n ex σ H ews hl ⟨L, B, s⟩
      have := s.peek (d := .tup xs) (w := .ref a) hl
      cases this with
      | tup h r => exact ⟨L, B, _, s, h.sqt, r⟩
    refine ⟨a, rfl, ⟨ws, ha.sqt⟩, k [.v (.tup xs)] xs _ n' [.ref a] _ H' q rfl s2 ⟨?_, ?_, ?_⟩⟩
    · intro i ρ n ex σ H ews hi hl s
      obtain ⟨L, B, ws, s, ha, r⟩ := main hl s
      have hi2 : i < ws.length := by rw [r.len]; exact hi
      exact ⟨ws, ws[i], ha, List.getElem?_eq_getElem hi2⟩
    · intro i d ρ n ex σ H ews x H' hd hl s ⟨eH, y⟩
      obtain ⟨L, B, ws, s, ha, r⟩ := main hl s
      subst eH
      obtain ⟨w, hw, rw'⟩ := r.at hd
      have := y ws ha
      rw [hw] at this
      cases this
      exact ⟨L, B, s.pushR rw'⟩
    · intro ρ n ex σ H ews hl s
      obtain ⟨L, B, ws, s, ha, r⟩ := main hl s
      exact ⟨ws, ha, by rw [r.len]; exact Nat.le_refl _⟩
/-- lo, lo + 1, .. -/
def rngD (lo : Int) (m : Nat) : List D := (List.range m).map fun (i : Nat) => D.int (lo + (i : Int))
theorem rngD_len {lo : Int} {m : Nat} : (rngD lo m).length = m := by unfold rngD; rw [List.length_map, List.length_range]
theorem rngD_at {lo : Int} {m i : Nat} {d : D} (h : (rngD lo m)[i]? = some d) : i < m ∧ d = .int (lo + (i : Int)) := by
  unfold rngD at h
  rw [List.getElem?_map] at h
  have hi : i < m := by
    rcases Nat.lt_or_ge i m with z | z
    · exact z
    · rw [List.getElem?_eq_none (by simpa using z)] at h; cases h
  rw [List.getElem?_range hi] at h
  exact ⟨hi, (Option.some.inj h).symm⟩
theorem wk_range {lo : Int} {m : Nat} {vs : List V} : Wk c [] ds [] vs (Itr lo m) (rngD lo m) := by
  refine ⟨?_, ?_, ?_⟩
  · intro i ρ n ex σ H ews hi _ _
    rw [rngD_len] at hi; exact hi
  · intro i d ρ n ex σ H ews x H' hd hl s ⟨eH, y⟩
    obtain ⟨_, rfl⟩ := rngD_at hd
    subst eH y
    exact s.pushS rfl
  · intro ρ n ex σ H ews hl s
    rw [rngD_len]; exact Nat.le_refl _
theorem irng1_ {ta : TA} {Q : List I → List D → QS} (h : GA c ρ n ds ta fun its ρ' n' => ∃ i : Int, its = [.v (.int i)] ∧ (-(2 ^ 62) ≤ i ∧ i < 2 ^ 62) ∧ Q [] (rngD 0 i.toNat) ρ' n') : GI c ρ n ds (iRng1 ta) Q := fun σ H vs F s k =>
  h σ H vs _ s fun its ρ' n' xs H' ⟨i, e, hi, q⟩ hl s' => by
    subst e
    match xs, hl with
    | [x], _ =>
    obtain ⟨L, B, s'⟩ := s'
    cases (StX.val s')
    exact ⟨i, rfl, hi.1, hi.2, k [] _ _ _ [] _ _ q rfl (St.pop ⟨L, B, s'⟩) wk_range⟩
theorem irng2_ {ta : TA} {Q : List I → List D → QS} (h : GA c ρ n ds ta fun its ρ' n' => ∃ i j : Int, its = [.v (.int i), .v (.int j)] ∧ (-(2 ^ 62) ≤ i ∧ i < 2 ^ 62 ∧ -(2 ^ 62) ≤ j ∧ j < 2 ^ 62) ∧ Q [] (rngD i (j - i).toNat) ρ' n') : GI c ρ n ds (iRng2 ta) Q := fun σ H vs F s k =>
  h σ H vs _ s fun its ρ' n' xs H' ⟨i, j, e, hi, q⟩ hl s' => by
    subst e
    match xs, hl with
    | [x, y], _ =>
    obtain ⟨L, B, s'⟩ := s'
    cases (StX.val s')
    have s2 := St.pop ⟨L, B, s'⟩
    obtain ⟨L, B, s2⟩ := s2
    cases (StX.val s2)
    exact ⟨i, j, rfl, hi, k [] _ _ _ [] _ _ q rfl (St.pop ⟨L, B, s2⟩) wk_range⟩
end
end HD
/-! comprehensions -/
namespace HD
open PySem PySem.Spec PyProof.Rows L2 HX
def unset : List Nat → List S → List S
  | [], ρ => ρ
  | i :: is, ρ => (unset is ρ).set i .un
/-- no item looks at one of these slots -/
def cleanO (own : List Nat) (ds : List I) : Bool := ds.all fun i => match i with
  | .b j _ => !own.contains j
  | _ => true
section
variable {K : PySem.W.Frag} {c : Wd K} {ρ : List S} {n : Nat} {ds : List I} {L B : List Addr} {σ : L2.St} {H H' : Hp} {vs : List V} {v : V} {p : Addr}
theorem unset_len : ∀ (own : List Nat) (ρ : List S), (unset own ρ).length = ρ.length
  | [], _ => rfl
  | i :: is, ρ => by unfold unset; rw [List.length_set, unset_len is ρ]
theorem unset_at : ∀ {own : List Nat} {ρ : List S} {i : Nat}, i ∈ own → i < ρ.length → (unset own ρ)[i]? = some .un
  | [], _, _, h, _ => by cases h
  | j :: is, ρ, i, h, hl => by
    unfold unset
    by_cases e : j = i
    · subst e
      rw [List.getElem?_set_self (by rw [unset_len]; exact hl)]
    · rw [List.getElem?_set_ne e]
      refine unset_at ?_ hl
      rcases List.mem_cons.mp h with z | z
      · exact absurd z.symm e
      · exact z
theorem unset_ne : ∀ {own : List Nat} {ρ : List S} {i : Nat}, i ∉ own → (unset own ρ)[i]? = ρ[i]?
  | [], _, _, _ => rfl
  | j :: is, ρ, i, h => by
    unfold unset
    rw [List.getElem?_set_ne (fun e => h (by rw [e]; exact List.mem_cons_self))]
    exact unset_ne fun z => h (List.mem_cons_of_mem _ z)
theorem wipe_ne : ∀ {own : List Nat} {σ : L2.St} {i : Nat}, i ∉ own → (wipe σ own)[i]? = σ[i]?
  | [], _, _, _ => rfl
  | j :: is, σ, i, h => by
    unfold wipe
    rw [List.getElem?_set_ne (fun e => h (by rw [e]; exact List.mem_cons_self))]
    exact wipe_ne fun z => h (List.mem_cons_of_mem _ z)
theorem SRs.unset1 {g : Addr} {M : Addr → Prop} (i : Nat) (x : Option V) : ∀ {ρ : List S} {L : List Addr} {σ : L2.St}, SRs K g M H ρ L σ → ∃ L', L'.Sublist L ∧ SRs K g M H (ρ.set i .un) L' (σ.set i x) := fun {ρ L σ} h => by
  by_cases hi : i < ρ.length
  · obtain ⟨L1, l, L2, y, e1, e2, e3, e4⟩ := h.at (List.getElem?_eq_getElem hi)
    refine ⟨L1 ++ ([] ++ L2), ?_, e4 (l' := []) (.un x)⟩
    rw [e1]
    exact (List.Sublist.refl L1).append (List.sublist_append_right l L2)
  · have hl := h.len
    rw [List.set_eq_of_length_le (by omega), List.set_eq_of_length_le (by omega)]
    exact ⟨L, List.Sublist.refl _, h⟩
theorem SRs.unset {g : Addr} {M : Addr → Prop} : ∀ {own : List Nat} {ρ : List S} {L : List Addr} {σ : L2.St}, SRs K g M H ρ L σ → ∃ L', L'.Sublist L ∧ SRs K g M H (HD.unset own ρ) L' (wipe σ own)
  | [], _, L, _, h => ⟨L, List.Sublist.refl _, h⟩
  | i :: is, ρ, L, σ, h => by
    obtain ⟨L1, s1, h1⟩ := SRs.unset (own := is) h
    obtain ⟨L2, s2, h2⟩ := h1.unset1 i none
    exact ⟨L2, s2.trans s1, h2⟩
theorem SRs.re {g : Addr} {M : Addr → Prop} : ∀ {ρ : List S} {L : List Addr} {σ σ' : L2.St}, SRs K g M H ρ L σ → σ'.length = σ.length → (∀ i : Nat, σ'[i]? = σ[i]? ∨ ρ[i]? = some .un) → SRs K g M H ρ L σ'
  | _, _, _, [], .nil, _, _ => .nil
  | _, _, _, _ :: _, .nil, h, _ => by cases h
  | _, _, _, [], .cons _ _, h, _ => by cases h
  | _, _, _, y :: σ', .cons (s := s) (x := x) a b, hl, h => by
    have hb := SRs.re (σ' := σ') b (by simpa using hl) fun i => h (i + 1)
    rcases h 0 with z | z
    · have e : y = x := Option.some.inj (show some y = some x from z)
      rw [e]; exact .cons a hb
    · have e : s = S.un := Option.some.inj (show some s = some S.un from z)
      subst e
      cases a
      exact .cons (l := []) (.un y) hb
theorem IRs.cleanO {g : Addr} {M : Addr → Prop} {own : List Nat} {σ σ' : L2.St} {ρ ρ' : List S} (hσ : ∀ i, i ∉ own → σ'[i]? = σ[i]?) (hρ : ∀ i, i ∉ own → ρ'[i]? = ρ[i]?) : ∀ {ds : List I} {l : List Addr} {w : List V}, HD.cleanO own ds = true → IRs K g M H ρ σ ds l w → IRs K g M H ρ' σ' ds l w
  | _, _, _, _, .nil => .nil
  | _, _, _, k, .cons a b => by
    simp only [HD.cleanO, List.all_cons, Bool.and_eq_true] at k
    refine .cons ?_ (IRs.cleanO hσ hρ k.2 b)
    cases a with
    | v r => exact .v r
    | o r => exact .o r
    | @b i w xs e r =>
      have hi : i ∉ own := by simpa using k.1
      exact .b (by rw [hσ i hi]; exact e) (by rw [hρ i hi]; exact r)
theorem St.unset {own : List Nat} (hc : HD.cleanO own ds = true) (s : St c ρ n ds σ H vs) : St c (HD.unset own ρ) n ds (wipe σ own) H vs := by
  obtain ⟨L, B, s⟩ := s
  obtain ⟨L', sub, h⟩ := s.sl.unset (own := own)
  have hs : (L' ++ B).Sublist (L ++ B) := sub.append (List.Sublist.refl B)
  have mv : Mv (Mo c (L ++ B)) (Mo c (L' ++ B)) H H := mv_less (mo_less fun a ha => hs.mem ha)
  exact ⟨L', B, h.mv mv fun _ _ _ h => h, (s.it.mv mv fun _ _ _ h => h).cleanO (own := own) (fun i hi => wipe_ne hi) (fun i hi => unset_ne hi) hc, s.nd.sublist hs, fun a ha => s.fr a (hs.mem ha), s.kp, s.hat, s.mg, s.ml, s.md⟩
theorem wipe_len : ∀ (σ : L2.St) (own : List Nat), (wipe σ own).length = σ.length := wipe_length
/-- behind the block the slots are as they were -/
theorem St.back {own : List Nat} (hc : HD.cleanO own ds = true) (s : St c (HD.unset own ρ) n ds (wipe σ own) H vs) : St c (HD.unset own ρ) n ds σ H vs := by
  obtain ⟨L, B, s⟩ := s
  have hl : (HD.unset own ρ).length = σ.length := by rw [s.sl.len, wipe_len]
  refine ⟨L, B, s.sl.re (wipe_len σ own).symm fun i => ?_, s.it.cleanO (own := own) (fun i hi => (wipe_ne hi).symm) (fun _ _ => rfl) hc, s.nd, s.fr, s.kp, s.hat, s.mg, s.ml, s.md⟩
  by_cases hi : i ∈ own
  · by_cases h2 : i < ρ.length
    · exact .inr (unset_at hi h2)
    · refine .inl ?_
      rw [unset_len] at hl
      rw [List.getElem?_eq_none (by omega), List.getElem?_eq_none (by rw [wipe_len]; omega)]
  · exact .inl (wipe_ne hi).symm
/-- a target within a comprehension: no other slot changes -/
def GW (c : Wd K) (ρ : List S) (n : Nat) (ds : List I) (own : List Nat) (g : TG) (it : I) (Q : QS) : Prop :=
  ∀ σ H vs v (F : L2.St → Hp → Prop), St c ρ n (it :: ds) σ H (v :: vs) → (∀ ρ' n' σ' H', Q ρ' n' → wipe σ' own = wipe σ own → St c ρ' n' ds σ' H' vs → F σ' H') → g v σ H F
def GWs (c : Wd K) (ρ : List S) (n : Nat) (ds : List I) (own : List Nat) (g : TGs) (its : List I) (Q : QS) : Prop :=
  ∀ σ H vs xs (F : L2.St → Hp → Prop), xs.length = its.length → St c ρ n (its ++ ds) σ H (xs ++ vs) → (∀ ρ' n' σ' H', Q ρ' n' → wipe σ' own = wipe σ own → St c ρ' n' ds σ' H' vs → F σ' H') → g xs σ H F
theorem wipe_set : ∀ {own : List Nat} {σ : L2.St} {i : Nat} {x : Option V}, i ∈ own → wipe (σ.set i x) own = wipe σ own
  | [], _, _, _, h => by cases h
  | j :: is, σ, i, x, h => by
    unfold wipe
    by_cases e : i = j
    · subst e
      apply List.ext_getElem?
      intro m
      by_cases hm : i = m
      · subst hm
        by_cases hl : i < σ.length
        · rw [List.getElem?_set_self (by rw [wipe_len, List.length_set]; exact hl), List.getElem?_set_self (by rw [wipe_len]; exact hl)]
        · rw [List.getElem?_eq_none (by rw [List.length_set, wipe_len, List.length_set]; omega), List.getElem?_eq_none (by rw [List.length_set, wipe_len]; omega)]
      · rw [List.getElem?_set_ne hm, List.getElem?_set_ne hm]
        by_cases hi : m ∈ is
        · have : ∀ σ : L2.St, m < σ.length → (wipe σ is)[m]? = some none := by
            intro σ hl
            clear h
            induction is with
            | nil => cases hi
            | cons k is ih =>
              unfold wipe
              by_cases ek : k = m
              · subst ek; rw [List.getElem?_set_self (by rw [wipe_len]; exact hl)]
              · rw [List.getElem?_set_ne ek]
                refine ih ?_
                rcases List.mem_cons.mp hi with z | z
                · exact absurd z.symm ek
                · exact z
          by_cases hl : m < σ.length
          · rw [this σ hl, this _ (by rw [List.length_set]; exact hl)]
          · rw [List.getElem?_eq_none (by rw [wipe_len, List.length_set]; omega), List.getElem?_eq_none (by rw [wipe_len]; omega)]
        · rw [wipe_ne hi, wipe_ne hi, List.getElem?_set_ne hm]
    · rw [wipe_set (own := is) (by
        rcases List.mem_cons.mp h with z | z
        · exact absurd z e
        · exact z)]
theorem wname_ {own : List Nat} {i : Nat} {d : D} {QG : QS} (hc : clean ds = true) (hi : Nat.blt i ρ.length = true) (ho : own.contains i = true) (h : QG (ρ.set i (.v d)) n) : GW c ρ n ds own (gName i) (.v d) QG := fun σ H vs v F s k => by
  have hi : i < ρ.length := Nat.le_of_ble_eq_true hi
  obtain ⟨L, B, s⟩ := s
  obtain ⟨L', s⟩ := s.setV hc hi
  exact k _ _ _ _ h (wipe_set (by simpa using ho)) ⟨L', B, s⟩
theorem StX.setVO {own : List Nat} {L B : List Addr} {v : V} {d : D} {i : Nat} (hc : HD.cleanO own ds = true) (ho : i ∈ own) (hi : i < ρ.length) (s : StX c L B ρ n (.v d :: ds) σ H (v :: vs)) : ∃ L', StX c L' B (ρ.set i (.v d)) n ds (σ.set i (some v)) H vs := by
  have hv := s.val
  obtain ⟨sl, it, nd, fr, kp, hat, mg, ml, md⟩ := s
  cases it with
  | @cons _ l0 _ _ B2 _ a b =>
    cases a
    obtain ⟨L1, l, L2, x, e1, e2, e3, e4⟩ := sl.at (i := i) (s := ρ[i]) (List.getElem?_eq_getElem hi)
    subst e1
    have sub : ∀ b ∈ (L1 ++ ([] ++ L2)) ++ ([] ++ B2), b ∈ (L1 ++ (l ++ L2)) ++ ([] ++ B2) := fun b hb => by
      simp only [List.mem_append, List.nil_append] at hb ⊢
      rcases hb with (z | z) | z
      · exact .inl (.inl z)
      · exact .inl (.inr (.inr z))
      · exact .inr z
    have mv : Mv (Mo c ((L1 ++ (l ++ L2)) ++ ([] ++ B2))) (Mo c ((L1 ++ ([] ++ L2)) ++ ([] ++ B2))) H H := mv_less (mo_less sub)
    refine ⟨L1 ++ ([] ++ L2), (e4 (.v hv)).mv mv fun _ _ _ h => h, (b.mv mv fun _ _ _ h => h).cleanO (own := own) (fun j hj => List.getElem?_set_ne fun e => hj (e ▸ ho : _ ∈ own)) (fun j hj => List.getElem?_set_ne fun e => hj (e ▸ ho : _ ∈ own)) hc, ?_, fun b hb => fr b (sub b hb), kp, hat, mg, ml, md⟩
    refine nd.sublist (List.Sublist.append ?_ (List.Sublist.refl _))
    exact (List.Sublist.refl L1).append (List.sublist_append_right l L2)
theorem wnameO_ {own : List Nat} {i : Nat} {d : D} {QG : QS} (hc : HD.cleanO own ds = true) (hi : Nat.blt i ρ.length = true) (ho : own.contains i = true) (h : QG (ρ.set i (.v d)) n) : GW c ρ n ds own (gName i) (.v d) QG := fun σ H vs v F s k => by
  have hi : i < ρ.length := Nat.le_of_ble_eq_true hi
  obtain ⟨L, B, s⟩ := s
  obtain ⟨L', s⟩ := s.setVO hc (by simpa using ho) hi
  exact k _ _ _ _ h (wipe_set (by simpa using ho)) ⟨L', B, s⟩
theorem wnil_ {own : List Nat} {QG : QS} (h : QG ρ n) : GWs c ρ n ds own gNil [] QG := fun σ H vs xs F hl s k => by
  cases xs with
  | nil => exact ⟨rfl, k _ _ _ _ h rfl s⟩
  | cons _ _ => cases hl
theorem wcons_ {own : List Nat} {g : TG} {gs : TGs} {it : I} {its : List I} {QG : QS} (h : GW c ρ n (its ++ ds) own g it fun ρ1 n1 => GWs c ρ1 n1 ds own gs its QG) : GWs c ρ n ds own (gCons g gs) (it :: its) QG := fun σ H vs xs F hl s k => by
  cases xs with
  | nil => cases hl
  | cons x xs =>
    refine ⟨x, xs, rfl, ?_⟩
    exact h σ H (xs ++ vs) x _ s fun ρ1 n1 σ1 H1 q w1 s1 => q σ1 H1 vs xs F (by simpa using hl) s1 fun ρ2 n2 σ2 H2 q2 w2 s2 => k _ _ _ _ q2 (w2.trans w1) s2
theorem wtup_ {own : List Nat} {m : Nat} {gs : TGs} {xs : List D} {QG : QS} (hl : xs.length = m) (h : GWs c ρ n ds own gs (xs.map I.v) QG) : GW c ρ n ds own (gTup K m gs) (.v (.tup xs)) QG := fun σ H vs v F ⟨L, B, s⟩ k => by
  cases s.val with
  | @tup a ws _ hs ra =>
    refine ⟨a, ws, rfl, hs.sqt, by rw [ra.len, hl], ?_⟩
    have s3 : StX c L B ρ n ds σ H vs := by
      cases hit : s.it with
      | cons a b => cases a; exact ⟨s.sl, b, s.nd, s.fr, s.kp, s.hat, s.mg, s.ml, s.md⟩
    exact h σ H vs ws F (by rw [ra.len, List.length_map]) ⟨L, B, St.elems s3 ra⟩ k
def CpD (c : Wd K) (ds : List I) (own : List Nat) (g : TG) (tt : TT) (te : TE) (Q : List D → QS) : List D → List D → QS
  | [], ys => fun ρ n => Q ys ρ n
  | x :: xs, ys => fun ρ n => GW c ρ n (.o (.lst ys) :: ds) own g (.v x) fun ρ1 n1 => GT c ρ1 n1 (.o (.lst ys) :: ds) tt fun b ρ2 n2 =>
    if b = true then GE c ρ2 n2 (.o (.lst ys) :: ds) te fun it ρ3 n3 => Nat.ble ys.length 100000 = true ∧ CpD c ds own g tt te Q xs (ys ++ [it.val]) (unset own (frz1 ρ3 it)) n3
    else CpD c ds own g tt te Q xs ys (unset own ρ2) n2
/-- the topmost value is put behind the list below it -/
theorem St.acc {it : I} {ys : List D} {w : V} (s : St c ρ n (it :: .o (.lst ys) :: ds) σ H (v :: w :: vs)) : ∃ a acc, w = .ref a ∧ H a = some (.lst acc) ∧ acc.length = ys.length ∧ St c (HD.frz1 ρ it) n (.o (.lst (ys ++ [it.val])) :: ds) σ (upd H a (.lst (acc ++ [v]))) (w :: vs) := by
  obtain ⟨L, B, s⟩ := s.frz1
  have hv := s.val
  have s2 : StX c L B (HD.frz1 ρ it) n (.o (.lst ys) :: ds) σ H (w :: vs) := by
    cases hit : s.it with
    | cons a b => cases a; exact ⟨s.sl, b, s.nd, s.fr, s.kp, s.hat, s.mg, s.ml, s.md⟩
  obtain ⟨a, rfl, ⟨acc, h1, h2⟩, h3⟩ := s2.wrO
  exact ⟨a, acc, rfl, h1, h2.len, L, B, h3 fun m => ⟨_, upd_same, (h2.append (.cons hv .nil)).mv m⟩⟩
theorem lc_ {wi : TI} {g : TG} {tt : TT} {te : TE} {own : List Nat} {Q : QI} (h : GI c ρ n ds wi fun pin xs ρ' n' => cleanO own (pin ++ ds) = true ∧ CpD c (pin ++ ds) own g tt te (fun ys ρ2 n2 => Q (.o (.lst ys)) ρ2 n2) xs [] (HD.unset own ρ') n') : GE c ρ n ds (tLc wi g tt te own) Q := fun σ H vs F s k =>
  h σ H vs _ s fun pin xs ρ' n' ws J H' ⟨hc, q⟩ hl s' w => by
    intro D hD
    obtain ⟨L, B, s'⟩ := s'
    have s1 : St c ρ' n' (.o (.lst []) :: (pin ++ ds)) σ (upd H' D (.lst [])) (.ref D :: (ws ++ vs)) := ⟨L, _, s'.pushO hD .nil⟩
    have hc1 : ∀ ys, cleanO own (.o (.lst ys) :: (pin ++ ds)) = true := fun ys => by
      unfold cleanO
      rw [List.all_cons]
      exact hc
    have s2 := St.unset (hc1 []) s1
    refine ⟨fun i m H => m = xs.length - i ∧ i ≤ xs.length ∧ ∃ ys ρ0 n, CpD c (pin ++ ds) own g tt te (fun ys ρ2 n2 => Q (.o (.lst ys)) ρ2 n2) (xs.drop i) ys (HD.unset own ρ0) n ∧ St c (HD.unset own ρ0) n (.o (.lst ys) :: (pin ++ ds)) (wipe σ own) H (.ref D :: (ws ++ vs)), ⟨xs.length, rfl, Nat.zero_le _, [], ρ', n', q, s2⟩, ?_⟩
    rintro i m H ⟨rfl, hi, ys, ρ0, n, f, s⟩
    by_cases hlt : i < xs.length
    · refine .inr ⟨w.go i _ n [.o (.lst ys)] _ H [.ref D] hlt rfl s, fun H => ∃ ys ρ0 n, CpD c (pin ++ ds) own g tt te (fun ys ρ2 n2 => Q (.o (.lst ys)) ρ2 n2) (xs.drop (i + 1)) ys (HD.unset own ρ0) n ∧ St c (HD.unset own ρ0) n (.o (.lst ys) :: (pin ++ ds)) (wipe σ own) H (.ref D :: (ws ++ vs)), fun H' z => ⟨_, by omega, rfl, hlt, z⟩, fun x H' y => ?_⟩
      have s3 := w.yl i xs[i] _ n [.o (.lst ys)] _ H [.ref D] x H' (List.getElem?_eq_getElem hlt) rfl s y
      rw [List.drop_eq_getElem_cons hlt] at f
      refine f _ H' _ x _ s3 fun ρ1 n1 σ1 H1 q1 w1 s4 => ?_
      have w2 : wipe σ1 own = wipe σ own := by
        rw [w1]
        apply List.ext_getElem?
        intro m
        by_cases hm : m ∈ own
        · have z : ∀ {own : List Nat} {σ : L2.St}, m ∈ own → m < σ.length → (wipe σ own)[m]? = some none := by
            intro own σ hm hl
            induction own with
            | nil => cases hm
            | cons k is ih =>
              unfold wipe
              by_cases ek : k = m
              · subst ek; rw [List.getElem?_set_self (by rw [wipe_len]; exact hl)]
              · rw [List.getElem?_set_ne ek]
                refine ih ?_
                rcases List.mem_cons.mp hm with z | z
                · exact absurd z.symm ek
                · exact z
          by_cases hl : m < σ.length
          · rw [z hm (by rw [wipe_len]; exact hl), z hm hl]
          · rw [List.getElem?_eq_none (by rw [wipe_len, wipe_len]; omega), List.getElem?_eq_none (by rw [wipe_len]; omega)]
        · rw [wipe_ne hm]
      refine ⟨w2, q1 σ1 H1 _ _ s4 fun b ρ2 n2 H2 q2 s5 => ?_⟩
      cases b with
      | true =>
        rw [if_pos rfl] at q2 ⊢
        refine q2 σ1 H2 _ _ s5 fun it ρ3 n3 v3 H3 q3 s6 => ?_
        obtain ⟨a, acc, ea, h1, h2, s7⟩ := St.acc s6
        cases ea
        have hb := Nat.le_of_ble_eq_true q3.1
        refine ⟨acc, h1, Nat.lt_of_lt_of_le (show acc.length < 100001 by omega) (by decide), _, _, n3, q3.2, ?_⟩
        have s8 := St.unset (own := own) (hc1 _) s7
        rw [w2] at s8
        exact s8
      | false =>
        rw [if_neg Bool.false_ne_true] at q2 ⊢
        have s8 := St.unset (own := own) (hc1 _) s5
        rw [w2] at s8
        exact ⟨ys, ρ2, n2, q2, s8⟩
    · have e : i = xs.length := by omega
      subst e
      rw [List.drop_length] at f
      have s3 := St.back (hc1 _) s
      refine .inl ⟨w.st _ n [.o (.lst ys)] _ H [.ref D] rfl s, k _ _ _ _ _ f ?_⟩
      exact St.pops hl (St.rot hl s3)
theorem cpN_ {own : List Nat} {g : TG} {tt : TT} {te : TE} {Q : List D → QS} {ys : List D} (h : Q ys ρ n) : CpD c ds own g tt te Q [] ys ρ n := h
theorem cpC_ {own : List Nat} {g : TG} {tt : TT} {te : TE} {Q : List D → QS} {ys xs : List D} {x : D} (h : GW c ρ n (.o (.lst ys) :: ds) own g (.v x) fun ρ1 n1 => GT c ρ1 n1 (.o (.lst ys) :: ds) tt fun b ρ2 n2 =>
    if b = true then GE c ρ2 n2 (.o (.lst ys) :: ds) te fun it ρ3 n3 => Nat.ble ys.length 100000 = true ∧ CpD c ds own g tt te Q xs (ys ++ [it.val]) (HD.unset own (HD.frz1 ρ3 it)) n3
    else CpD c ds own g tt te Q xs ys (HD.unset own ρ2) n2) : CpD c ds own g tt te Q (x :: xs) ys ρ n := h
theorem GE.mono {t : TE} {Q Q' : QI} (h : GE c ρ n ds t Q) (m : ∀ it ρ n, Q it ρ n → Q' it ρ n) : GE c ρ n ds t Q' := fun σ H vs F s k => h σ H vs F s fun it ρ n v H q => k it ρ n v H (m _ _ _ q)
theorem GT.mono {t : TT} {Q Q' : Bool → QS} (h : GT c ρ n ds t Q) (m : ∀ it ρ n, Q it ρ n → Q' it ρ n) : GT c ρ n ds t Q' := fun σ H vs F s k => h σ H vs F s fun it ρ n H q => k it ρ n H (m _ _ _ q)
theorem GW.mono {own : List Nat} {g : TG} {it : I} {Q Q' : QS} (h : GW c ρ n ds own g it Q) (m : ∀ ρ n, Q ρ n → Q' ρ n) : GW c ρ n ds own g it Q' := fun σ H vs v F s k => h σ H vs v F s fun ρ n σ H q => k ρ n σ H (m _ _ q)
/-- a comprehension by its invariant -/
theorem CpD.inv {own : List Nat} {g : TG} {tt : TT} {te : TE} {Q : List D → QS} {xs : List D} (P : Nat → List D → QS) (h0 : P 0 [] ρ n)
    (hs : ∀ i x ys ρ n, xs[i]? = some x → i < xs.length → P i ys ρ n → GW c ρ n (.o (.lst ys) :: ds) own g (.v x) fun ρ1 n1 => GT c ρ1 n1 (.o (.lst ys) :: ds) tt fun b ρ2 n2 =>
      if b = true then GE c ρ2 n2 (.o (.lst ys) :: ds) te fun it ρ3 n3 => Nat.ble ys.length 100000 = true ∧ P (i + 1) (ys ++ [it.val]) (HD.unset own (HD.frz1 ρ3 it)) n3
      else P (i + 1) ys (HD.unset own ρ2) n2) (hd : ∀ ys ρ n, P xs.length ys ρ n → Q ys ρ n) : CpD c ds own g tt te Q xs [] ρ n := by
  have go : ∀ (k : Nat) (ys : List D) (ρ : List S) (n : Nat), k ≤ xs.length → P k ys ρ n → CpD c ds own g tt te Q (xs.drop k) ys ρ n := by
    intro k
    generalize hm : xs.length - k = m
    induction m generalizing k with
    | zero =>
      intro ys ρ n hk p
      have : k = xs.length := by omega
      subst this
      rw [List.drop_length]
      exact hd _ _ _ p
    | succ m ih =>
      intro ys ρ n hk p
      have hlt : k < xs.length := by omega
      rw [List.drop_eq_getElem_cons hlt]
      refine (hs k xs[k] ys ρ n (List.getElem?_eq_getElem hlt) hlt p).mono fun ρ1 n1 q => q.mono fun b ρ2 n2 q2 => ?_
      cases b with
      | true =>
        rw [if_pos rfl] at q2 ⊢
        exact q2.mono fun it ρ3 n3 q3 => ⟨q3.1, ih (k + 1) (by omega) _ _ _ hlt q3.2⟩
      | false =>
        rw [if_neg Bool.false_ne_true] at q2 ⊢
        exact ih (k + 1) (by omega) _ _ _ hlt q2
  exact go 0 [] ρ n (Nat.zero_le _) h0
end
end HD
/-! operators, built-ins, methods on data -/
namespace HD
open PySem PySem.Spec PyProof.Rows L2 HX
mutual
def D.py : D → PyData
  | .bl b => .bool b
  | .int i => .int i
  | .str x => .str x
  | .tup xs => .tuple (D.pys xs)
  | .lst xs => .list (D.pys xs)
  | _ => .none
def D.pys : List D → List PyData
  | [] => []
  | x :: xs => D.py x :: D.pys xs
end
mutual
/-- nothing but None, truths, integers, texts, lists, tuples -/
def D.dat : D → Bool
  | .non => true
  | .bl _ => true
  | .int _ => true
  | .str _ => true
  | .tup xs => D.dats xs
  | .lst xs => D.dats xs
  | _ => false
def D.dats : List D → Bool
  | [] => true
  | x :: xs => D.dat x && D.dats xs
end
/-- == of data -/
def D.eqv (d e : D) : Bool := PyData.eqv d.py e.py
def D.cmp (d e : D) : Prop := d.dat = true ∧ e.dat = true ∧ SeqAt.shaped d.py = true ∧ SeqAt.shaped e.py = true
def flatD : D → Bool
  | .non => true
  | .bl _ => true
  | .int _ => true
  | .str _ => true
  | _ => false
def eqF : D → D → Bool
  | .non, .non => true
  | .bl a, .bl b => a == b
  | .bl a, .int b => (if a then 1 else 0) == b
  | .int a, .bl b => a == (if b then 1 else 0)
  | .int a, .int b => a == b
  | .str a, .str b => a == b
  | _, _ => false
def inF (x : D) (xs : List D) : Bool := xs.any fun y => eqF y x
def cutD (xs : List D) (lo hi : Option Int) : List D := (xs.drop (HT.sIx xs.length 0 lo)).take (HT.sIx xs.length xs.length hi - HT.sIx xs.length 0 lo)
section
variable {K : PySem.W.Frag} {c : Wd K} {ρ : List S} {n : Nat} {ds : List I} {L B : List Addr} {σ : L2.St} {H H' : Hp} {vs : List V} {v : V} {p : Addr} {Q : QI} {g : Addr} {M : Addr → Prop}
mutual
theorem R.dp : ∀ {v : V} {d : D}, R K g M H v d → d.dat = true → Dp K H v d.py
  | _, _, .non, _ => by rw [D.py]; exact .non; all_goals (intros; contradiction)
  | _, _, .bl b, _ => by rw [D.py]; exact .bl b
  | _, _, .int b, _ => by rw [D.py]; exact .int b
  | _, _, .str b, _ => by rw [D.py]; exact .str b
  | _, _, .ty b, h => by simp [D.dat] at h
  | _, _, .glo b, h => by simp [D.dat] at h
  | _, _, .hat, h => by simp [D.dat] at h
  | _, _, .lst n e a, h => by rw [D.py]; rw [D.dat] at h; exact .lst (SqL.of e) (RA.dp a h)
  | _, _, .tup s a, h => by rw [D.py]; rw [D.dat] at h; exact .tup s.sqt (RA.dp a h)
  | _, _, .ins n e a, h => by simp [D.dat] at h
theorem RA.dp : ∀ {v : List V} {d : List D}, RA K g M H v d → D.dats d = true → DpAll K H v (D.pys d)
  | _, _, .nil, _ => by rw [D.pys]; exact .nil
  | _, _, .cons a b, h => by
    rw [D.pys]
    rw [D.dats, Bool.and_eq_true] at h
    exact .cons (R.dp a h.1) (RA.dp b h.2)
end
theorem IR.ls {it : I} {l : List Addr} {w : V} {xs : List D} (sl : SRs K g M H ρ L σ) (h : IR K g M H ρ σ it l w) (e : it.val = .lst xs) : ∃ a ws, w = .ref a ∧ H a = some (.lst ws) ∧ RA K g M H ws xs := by
  cases h with
  | v r => cases (show _ = D.lst xs from e); cases r with | lst n h q => exact ⟨_, _, rfl, h, q⟩
  | o h => cases (show _ = D.lst xs from e); obtain ⟨_, h, q⟩ := h; exact ⟨_, _, rfl, h, q⟩
  | @b i _ _ h q =>
    cases (show _ = D.lst xs from e)
    rcases q with q | q | ⟨_, q⟩
    · obtain ⟨_, _, _, x, _, e2, e3, _⟩ := sl.at q
      rw [h] at e2; cases e2
      cases e3 with | ow h2 => obtain ⟨_, h2, r⟩ := h2; exact ⟨_, _, rfl, h2, r⟩
    · obtain ⟨_, _, _, x, _, e2, e3, _⟩ := sl.at q
      rw [h] at e2; cases e2
      cases e3 with | v r => cases r with | lst n h2 r => exact ⟨_, _, rfl, h2, r⟩
    · obtain ⟨_, _, _, x, _, e2, e3, _⟩ := sl.at q
      rw [h] at e2; cases e2
      cases e3 with | me h2 => obtain ⟨_, h2, r⟩ := h2; exact ⟨_, _, rfl, h2, r⟩
theorem IRs.tl {it : I} {ds : List I} (h : IRs K g M H ρ σ (it :: ds) B (v :: vs)) : ∃ B', B'.Sublist B ∧ IRs K g M H ρ σ ds B' vs := by
  cases h with | @cons _ l _ _ B2 _ a b => exact ⟨B2, List.sublist_append_right l B2, b⟩
theorem StX.cutB {B' : List Addr} {ds' : List I} {vs' : List V} (s : StX c L B ρ n ds σ H vs) (hB : B'.Sublist B) (h : IRs K c.g (Mo c (L ++ B)) H ρ σ ds' B' vs') : StX c L B' ρ n ds' σ H vs' ∧ Mv (Mo c (L ++ B)) (Mo c (L ++ B')) H H := by
  have hs : (L ++ B').Sublist (L ++ B) := (List.Sublist.refl L).append hB
  have mv : Mv (Mo c (L ++ B)) (Mo c (L ++ B')) H H := mv_less (mo_less fun a ha => hs.mem ha)
  exact ⟨⟨s.sl.mv mv fun _ _ _ h => h, h.mv mv fun _ _ _ h => h, s.nd.sublist hs, fun a ha => s.fr a (hs.mem ha), s.kp, s.hat, s.mg, s.ml, s.md⟩, mv⟩
/-- two lists on top -/
theorem StX.ls2 {ix iy : I} {x y : V} {xs ys : List D} (s : StX c L B ρ n (iy :: ix :: ds) σ H (y :: x :: vs)) (ex : ix.val = .lst xs) (ey : iy.val = .lst ys) : ∃ a b ws us B', x = .ref a ∧ y = .ref b ∧ H a = some (.lst ws) ∧ H b = some (.lst us) ∧ StX c L B' ρ n ds σ H vs ∧ RA K c.g (Mo c (L ++ B')) H ws xs ∧ RA K c.g (Mo c (L ++ B')) H us ys := by
  obtain ⟨_, hy⟩ := IRs.mid (ex := []) (ews := []) rfl s.it
  obtain ⟨_, hx⟩ := IRs.mid (ex := [iy]) (ews := [y]) rfl s.it
  obtain ⟨b, us, rfl, hb, rb⟩ := hy.ls s.sl ey
  obtain ⟨a, ws, rfl, ha, ra⟩ := hx.ls s.sl ex
  obtain ⟨B1, h1, t1⟩ := s.it.tl
  obtain ⟨B2, h2, t2⟩ := t1.tl
  obtain ⟨s2, mv⟩ := s.cutB (h2.trans h1) t2
  exact ⟨a, b, ws, us, B2, rfl, rfl, ha, hb, s2, ra.mv mv, rb.mv mv⟩
/-- two items on top, as they are -/
theorem StX.it2 {ix iy : I} {x y : V} (s : StX c L B ρ n (iy :: ix :: ds) σ H (y :: x :: vs)) : ∃ B' lx ly, StX c L B' ρ n ds σ H vs ∧ Mv (Mo c (L ++ B)) (Mo c (L ++ B')) H H ∧ IR K c.g (Mo c (L ++ B)) H ρ σ ix lx x ∧ IR K c.g (Mo c (L ++ B)) H ρ σ iy ly y := by
  obtain ⟨_, hy⟩ := IRs.mid (ex := []) (ews := []) rfl s.it
  obtain ⟨_, hx⟩ := IRs.mid (ex := [iy]) (ews := [y]) rfl s.it
  obtain ⟨B1, h1, t1⟩ := s.it.tl
  obtain ⟨B2, h2, t2⟩ := t1.tl
  obtain ⟨s2, mv⟩ := s.cutB (h2.trans h1) t2
  exact ⟨B2, _, _, s2, mv, hx, hy⟩
theorem StX.it1 {ix : I} {x : V} (s : StX c L B ρ n (ix :: ds) σ H (x :: vs)) : ∃ B' lx, StX c L B' ρ n ds σ H vs ∧ Mv (Mo c (L ++ B)) (Mo c (L ++ B')) H H ∧ IR K c.g (Mo c (L ++ B)) H ρ σ ix lx x := by
  obtain ⟨_, hx⟩ := IRs.mid (ex := []) (ews := []) rfl s.it
  obtain ⟨B1, h1, t1⟩ := s.it.tl
  obtain ⟨s2, mv⟩ := s.cutB h1 t1
  exact ⟨B1, _, s2, mv, hx⟩
theorem IR.r {d : D} {l : List Addr} {w : V} (h : IR K g M H ρ σ (.v d) l w) : R K g M H w d := by cases h with | v r => exact r
theorem RO.dp {a : Addr} {d : D} (h : RO K g M H a d) (hd : d.dat = true) : Dp K H (.ref a) d.py := by
  cases d <;> first | exact h.elim | skip
  · obtain ⟨_, h, r⟩ := h; rw [D.dat] at hd; rw [D.py]; exact .lst (SqL.of h) (r.dp hd)
  · simp [D.dat] at hd
theorem IR.dpv {it : I} {l : List Addr} {w : V} (sl : SRs K g M H ρ L σ) (h : IR K g M H ρ σ it l w) (hd : it.val.dat = true) : Dp K H w it.val.py := by
  cases h with
  | v r => exact r.dp hd
  | o r => exact r.dp hd
  | @b i _ _ h q =>
    rcases q with q | q | ⟨_, q⟩
    · obtain ⟨_, _, _, x, _, e2, e3, _⟩ := sl.at q
      rw [h] at e2; cases e2
      cases e3 with | ow h2 => exact h2.dp hd
    · obtain ⟨_, _, _, x, _, e2, e3, _⟩ := sl.at q
      rw [h] at e2; cases e2
      cases e3 with | v r => exact r.dp hd
    · obtain ⟨_, _, _, x, _, e2, e3, _⟩ := sl.at q
      rw [h] at e2; cases e2
      cases e3 with | me h2 => exact h2.dp hd
/-! ### integers -/
theorem St.two {x y : V} {d e : D} (s : St c ρ n (.v e :: .v d :: ds) σ H (y :: x :: vs)) : (∃ M, R K c.g M H x d) ∧ ∃ M, R K c.g M H y e := by
  obtain ⟨L, B, s⟩ := s
  refine ⟨?_, _, s.val⟩
  obtain ⟨B', s2⟩ := s.pop
  exact ⟨_, s2.val⟩
theorem St.one {x : V} {d : D} (s : St c ρ n (.v d :: ds) σ H (x :: vs)) : ∃ M, R K c.g M H x d := by
  obtain ⟨L, B, s⟩ := s
  exact ⟨_, s.val⟩
theorem R.eInt {x : V} {i : Int} (h : ∃ M, R K g M H x (.int i)) : x = .int i := by obtain ⟨M, h⟩ := h; cases h; rfl
theorem R.eStr {x : V} {i : Str} (h : ∃ M, R K g M H x (.str i)) : x = .str i := by obtain ⟨M, h⟩ := h; cases h; rfl
theorem R.eBl {x : V} {i : Bool} (h : ∃ M, R K g M H x (.bl i)) : x = .bl i := by obtain ⟨M, h⟩ := h; cases h; rfl
theorem R.eTy {x : V} {i : String} (h : ∃ M, R K g M H x (.ty i)) : x = .ty i := by obtain ⟨M, h⟩ := h; cases h; rfl
theorem R.eNon {x : V} (h : ∃ M, R K g M H x .non) : x = .non := by obtain ⟨M, h⟩ := h; cases h; rfl
section
variable {i j : Int}
theorem iInt_ {f : Int → Int → Int} (h : Q (.v (.int (f i j))) ρ n) : GO c ρ n ds (rI0 fun i j => .int (f i j)) (.v (.int i)) (.v (.int j)) Q := fun σ H vs x y F s k => by
  obtain rfl := R.eInt s.two.1; obtain rfl := R.eInt s.two.2
  exact ⟨i, j, rfl, rfl, k _ _ _ _ _ h (s.pop.pop.pushS rfl)⟩
theorem iBl_ {f : Int → Int → Bool} (h : Q (.v (.bl (f i j))) ρ n) : GO c ρ n ds (rI0 fun i j => .bl (f i j)) (.v (.int i)) (.v (.int j)) Q := fun σ H vs x y F s k => by
  obtain rfl := R.eInt s.two.1; obtain rfl := R.eInt s.two.2
  exact ⟨i, j, rfl, rfl, k _ _ _ _ _ h (s.pop.pop.pushS rfl)⟩
theorem iC_ {C : Int → Int → Prop} {f : Int → Int → Int} (hc : C i j) (h : Q (.v (.int (f i j))) ρ n) : GO c ρ n ds (rI C fun i j => .int (f i j)) (.v (.int i)) (.v (.int j)) Q := fun σ H vs x y F s k => by
  obtain rfl := R.eInt s.two.1; obtain rfl := R.eInt s.two.2
  exact ⟨i, j, rfl, rfl, hc, k _ _ _ _ _ h (s.pop.pop.pushS rfl)⟩
/-- a remainder: a letter and what is known of it -/
theorem mod_ (hj : 0 < j) (h : ∀ z, i % j = z → 0 ≤ z → z < j → Q (.v (.int z)) ρ n) : GO c ρ n ds rMod (.v (.int i)) (.v (.int j)) Q := fun σ H vs x y F s k => by
  obtain rfl := R.eInt s.two.1; obtain rfl := R.eInt s.two.2
  exact ⟨i, j, rfl, rfl, hj, k _ _ _ _ _ (h _ rfl (Int.emod_nonneg i (by omega)) (Int.emod_lt_of_pos i hj)) (s.pop.pop.pushS rfl)⟩
theorem u_ {f : Int → Int} (h : Q (.v (.int (f i))) ρ n) : GU c ρ n ds (rU fun i => .int (f i)) (.v (.int i)) Q := fun σ H vs x F s k => by
  obtain rfl := R.eInt s.one
  exact ⟨i, rfl, k _ _ _ _ _ h (s.pop.pushS rfl)⟩
theorem addI_ (h : Q (.v (.int (i + j))) ρ n) : GO c ρ n ds (rAddU K) (.v (.int i)) (.v (.int j)) Q := fun σ H vs x y F s k => .inl (iInt_ (f := fun i j => i + j) h σ H vs x y F s k)
theorem addS_ {i j : Str} (hl : i.length + j.length ≤ sizeLine) (h : Q (.v (.str (i ++ j))) ρ n) : GO c ρ n ds (rAddU K) (.v (.str i)) (.v (.str j)) Q := fun σ H vs x y F s k => by
  obtain rfl := R.eStr s.two.1; obtain rfl := R.eStr s.two.2
  exact .inr (.inl ⟨i, j, rfl, rfl, hl, k _ _ _ _ _ h (s.pop.pop.pushS rfl)⟩)
theorem addL_ {ix iy : I} {xs ys : List D} (ex : ix.val = .lst xs) (ey : iy.val = .lst ys) (hl : xs.length + ys.length ≤ 100000) (h : Q (.o (.lst (xs ++ ys))) ρ n) : GO c ρ n ds (rAddU K) ix iy Q := fun σ H vs x y F ⟨L, B, s⟩ k => by
  obtain ⟨a, b, ws, us, B', rfl, rfl, ha, hb, s2, ra, rb⟩ := s.ls2 ex ey
  refine .inr (.inr (.inl ⟨a, b, ws, us, rfl, rfl, ha, hb, ?_, fun p hp => k _ _ _ _ _ h ⟨L, _, s2.pushO hp (ra.append rb)⟩⟩))
  rw [ra.len, rb.len]; exact Nat.le_trans hl (by decide)
theorem addT_ {xs ys : List D} (hl : xs.length + ys.length ≤ 100000) (h : Q (.v (.tup (xs ++ ys))) ρ n) : GO c ρ n ds (rAddU K) (.v (.tup xs)) (.v (.tup ys)) Q := fun σ H vs x y F ⟨L, B, s⟩ k => by
  obtain ⟨B', lx, ly, s2, mv, hx', hy'⟩ := s.it2
  cases hx'.r with
  | @tup a ws _ ha ra =>
  cases hy'.r with
  | @tup b us _ hb rb =>
  refine .inr (.inr (.inr ⟨a, b, ws, us, rfl, rfl, ha.sqt, hb.sqt, ?_, fun e => ?_, fun _ e => ?_, fun _ _ p hp => ?_⟩))
  · rw [ra.len, rb.len]; exact Nat.le_trans hl (by decide)
  · have : xs = [] := List.length_eq_zero_iff.mp (by rw [← ra.len, e]; rfl)
    subst this
    exact k _ _ _ _ _ h ⟨L, B', s2.pushR ((R.tup hb rb).mv mv)⟩
  · have : ys = [] := List.length_eq_zero_iff.mp (by rw [← rb.len, e]; rfl)
    subst this
    rw [List.append_nil] at h
    exact k _ _ _ _ _ h ⟨L, B', s2.pushR ((R.tup ha ra).mv mv)⟩
  · exact k _ _ _ _ _ h ⟨L, B', s2.pushT hp ((ra.append rb).mv mv)⟩
theorem repL_ {ix : I} {xs : List D} {m : Int} (ex : ix.val = .lst xs) (hm : -(2 ^ 63) ≤ m ∧ m < 2 ^ 63) (hl : xs.length * m.toNat ≤ 100000) (h : Q (.o (.lst (List.replicate m.toNat xs).flatten)) ρ n) : GO c ρ n ds rRep ix (.v (.int m)) Q := fun σ H vs x y F ⟨L, B, s⟩ k => by
  obtain ⟨B', lx, ly, s2, mv, hx, hy⟩ := s.it2
  cases hy.r
  obtain ⟨a, ws, rfl, ha, ra⟩ := hx.ls s.sl ex
  refine ⟨a, m, ws, rfl, rfl, ha, hm.1, hm.2, ?_, fun p hp => k _ _ _ _ _ h ⟨L, _, s2.pushO hp ?_⟩⟩
  · rw [ra.len]; exact Nat.le_trans hl (by decide)
  · have ra2 := ra.mv mv
    clear hl h
    induction m.toNat with
    | zero => exact .nil
    | succ q ih => rw [List.replicate_succ, List.replicate_succ, List.flatten_cons, List.flatten_cons]; exact ra2.append ih
/-! ### comparisons -/
theorem eqI_ (h : Q (.v (.bl (decide (i = j)))) ρ n) : GO c ρ n ds (rEqU K) (.v (.int i)) (.v (.int j)) Q := fun σ H vs x y F s k => by
  obtain rfl := R.eInt s.two.1; obtain rfl := R.eInt s.two.2
  exact HX.eq_int_ (k _ _ _ _ _ h (s.pop.pop.pushS rfl))
theorem neI_ (h : Q (.v (.bl (!decide (i = j)))) ρ n) : GO c ρ n ds (rNeU K) (.v (.int i)) (.v (.int j)) Q := fun σ H vs x y F s k => by
  obtain rfl := R.eInt s.two.1; obtain rfl := R.eInt s.two.2
  exact HX.ne_int_ (k _ _ _ _ _ h (s.pop.pop.pushS rfl))
theorem eqS_ {i j : Str} (h : Q (.v (.bl (decide (i = j)))) ρ n) : GO c ρ n ds (rEqU K) (.v (.str i)) (.v (.str j)) Q := fun σ H vs x y F s k => by
  obtain rfl := R.eStr s.two.1; obtain rfl := R.eStr s.two.2
  exact HX.eq_str_ (k _ _ _ _ _ h (s.pop.pop.pushS rfl))
theorem neS_ {i j : Str} (h : Q (.v (.bl (!decide (i = j)))) ρ n) : GO c ρ n ds (rNeU K) (.v (.str i)) (.v (.str j)) Q := fun σ H vs x y F s k => by
  obtain rfl := R.eStr s.two.1; obtain rfl := R.eStr s.two.2
  exact HX.ne_str_ (k _ _ _ _ _ h (s.pop.pop.pushS rfl))
theorem eqB_ {i j : Bool} (h : Q (.v (.bl (decide (i = j)))) ρ n) : GO c ρ n ds (rEqU K) (.v (.bl i)) (.v (.bl j)) Q := fun σ H vs x y F s k => by
  obtain rfl := R.eBl s.two.1; obtain rfl := R.eBl s.two.2
  exact HX.eq_bl_ (k _ _ _ _ _ h (s.pop.pop.pushS rfl))
theorem neB_ {i j : Bool} (h : Q (.v (.bl (!decide (i = j)))) ρ n) : GO c ρ n ds (rNeU K) (.v (.bl i)) (.v (.bl j)) Q := fun σ H vs x y F s k => by
  obtain rfl := R.eBl s.two.1; obtain rfl := R.eBl s.two.2
  exact HX.ne_bl_ (k _ _ _ _ _ h (s.pop.pop.pushS rfl))
theorem eqD_ {ix iy : I} (hc : D.cmp ix.val iy.val) (h : Q (.v (.bl (D.eqv ix.val iy.val))) ρ n) : GO c ρ n ds (rEqU K) ix iy Q := fun σ H vs x y F ⟨L, B, s⟩ k => by
  obtain ⟨B', lx, ly, s2, mv, hx, hy⟩ := s.it2
  exact HC.eqd_ (hx.dpv s.sl hc.1) (hy.dpv s.sl hc.2.1) hc.2.2.1 hc.2.2.2 (k _ _ _ _ _ h ⟨L, B', s2.pushR (.bl _)⟩)
theorem neD_ {ix iy : I} (hc : D.cmp ix.val iy.val) (h : Q (.v (.bl (!D.eqv ix.val iy.val))) ρ n) : GO c ρ n ds (rNeU K) ix iy Q := fun σ H vs x y F ⟨L, B, s⟩ k => by
  obtain ⟨B', lx, ly, s2, mv, hx, hy⟩ := s.it2
  exact HC.ned_ (hx.dpv s.sl hc.1) (hy.dpv s.sl hc.2.1) hc.2.2.1 hc.2.2.2 (k _ _ _ _ _ h ⟨L, B', s2.pushR (.bl _)⟩)
end
end
end HD
/-! operators, built-ins, methods on data: second part -/
namespace HD
open PySem PySem.Spec PyProof.Rows L2 HX
section
variable {K : PySem.W.Frag} {c : Wd K} {ρ : List S} {n : Nat} {ds : List I} {L B : List Addr} {σ : L2.St} {H H' : Hp} {vs : List V} {v : V} {p : Addr} {Q : QI} {g : Addr} {M : Addr → Prop}
/-! ### in, not in -/
theorem R.flat {v : V} {d : D} (h : R K g M H v d) (f : flatD d = true) : flatV v = true := by
  cases h <;> first | rfl | cases f
theorem R.eqF {v w : V} {d e : D} (h : R K g M H v d) (h2 : R K g M H w e) (f : flatD d = true) (f2 : flatD e = true) : eqV v w = HD.eqF d e := by
  cases h <;> cases h2 <;> first | rfl | cases f | cases f2
theorem RA.flat : ∀ {ws : List V} {xs : List D}, RA K g M H ws xs → xs.all flatD = true → ws.all flatV = true
  | _, _, .nil, _ => rfl
  | _, _, .cons a b, f => by
    rw [List.all_cons, Bool.and_eq_true] at f ⊢
    exact ⟨a.flat f.1, RA.flat b f.2⟩
theorem RA.inF {v : V} {d : D} (h : R K g M H v d) (fd : flatD d = true) : ∀ {ws : List V} {xs : List D}, RA K g M H ws xs → xs.all flatD = true → inV v ws = HD.inF d xs
  | _, _, .nil, _ => rfl
  | _, _, .cons a b, f => by
    rw [List.all_cons, Bool.and_eq_true] at f
    unfold inV HD.inF
    rw [List.any_cons, List.any_cons, a.eqF h f.1 fd]
    have := RA.inF h fd b f.2
    unfold inV HD.inF at this
    rw [this]
/-- an item's list or tuple -/
def D.seq : D → Option (List D)
  | .lst xs => some xs
  | .tup xs => some xs
  | _ => none
def I.seq (it : I) : Option (List D) := it.val.seq
theorem R.seq {w : V} {d : D} {xs : List D} (h : R K g M H w d) (e : d.seq = some xs) : ∃ a ws, w = .ref a ∧ (SqL K H a ws ∨ SqT K H a ws) ∧ RA K g M H ws xs := by
  cases d with
  | lst ys => cases e; cases h with | lst n h2 r => exact ⟨_, _, rfl, .inl (SqL.of h2), r⟩
  | tup ys => cases e; cases h with | tup h2 r => exact ⟨_, _, rfl, .inr h2.sqt, r⟩
  | _ => cases e
theorem RO.seq {a : Addr} {d : D} {xs : List D} (h : RO K g M H a d) (e : d.seq = some xs) : ∃ ws, (SqL K H a ws ∨ SqT K H a ws) ∧ RA K g M H ws xs := by
  cases d with
  | lst ys => cases e; obtain ⟨_, h, r⟩ := h; exact ⟨_, .inl (SqL.of h), r⟩
  | tup ys => exact h.elim
  | _ => cases e
theorem IR.seq {it : I} {l : List Addr} {w : V} {xs : List D} (sl : SRs K g M H ρ L σ) (h : IR K g M H ρ σ it l w) (e : it.seq = some xs) : ∃ a ws, w = .ref a ∧ (SqL K H a ws ∨ SqT K H a ws) ∧ RA K g M H ws xs := by
  cases h with
  | v r => exact r.seq e
  | o r => obtain ⟨ws, h1, h2⟩ := r.seq e; exact ⟨_, ws, rfl, h1, h2⟩
  | @b i _ _ h q =>
    rcases q with q | q | ⟨_, q⟩
    · obtain ⟨_, _, _, x, _, e2, e3, _⟩ := sl.at q
      rw [h] at e2; cases e2
      cases e3 with | ow h2 => obtain ⟨ws, h1, h2⟩ := h2.seq e; exact ⟨_, ws, rfl, h1, h2⟩
    · obtain ⟨_, _, _, x, _, e2, e3, _⟩ := sl.at q
      rw [h] at e2; cases e2
      cases e3 with | v r => exact r.seq e
    · obtain ⟨_, _, _, x, _, e2, e3, _⟩ := sl.at q
      rw [h] at e2; cases e2
      cases e3 with | me h2 => obtain ⟨ws, h1, h2⟩ := h2.seq e; exact ⟨_, ws, rfl, h1, h2⟩
theorem inG_ {neg : Bool} {d : D} {iy : I} {xs : List D} (ey : iy.seq = some xs) (fd : flatD d = true) (fx : xs.all flatD = true) {r : R2} (hr : ∀ x y H F, rIn K neg x y H F → r x y H F) (h : Q (.v (.bl (if neg then !inF d xs else inF d xs))) ρ n) : GO c ρ n ds r (.v d) iy Q := fun σ H vs x y F ⟨L, B, s⟩ k => by
  obtain ⟨B', lx, ly, s2, mv, hx, hy⟩ := s.it2
  obtain ⟨a, ws, rfl, hs, r⟩ := hy.seq s.sl ey
  refine hr _ _ _ _ ⟨a, ws, rfl, hs, hx.r.flat fd, r.flat fx, ?_⟩
  rw [RA.inF hx.r fd r fx]
  exact k _ _ _ _ _ h ⟨L, B', s2.pushR (.bl _)⟩
theorem in_ {d : D} {iy : I} {xs : List D} (ey : iy.seq = some xs) (fd : flatD d = true) (fx : xs.all flatD = true) (h : Q (.v (.bl (inF d xs))) ρ n) : GO c ρ n ds (rInU K) (.v d) iy Q := inG_ (neg := false) ey fd fx (fun _ _ _ _ z => .inl z) h
theorem ni_ {d : D} {iy : I} {xs : List D} (ey : iy.seq = some xs) (fd : flatD d = true) (fx : xs.all flatD = true) (h : Q (.v (.bl (!inF d xs))) ρ n) : GO c ρ n ds (rNiU K) (.v d) iy Q := inG_ (neg := true) ey fd fx (fun _ _ _ _ z => .inl z) h
theorem inSg_ {a : Nat} {z : Str} (h : Q (.v (.bl (decide (a ∈ z.cps.toList)))) ρ n) : GO c ρ n ds (rInU K) (.v (.str ⟨#[a]⟩)) (.v (.str z)) Q := fun σ H vs x y F s k => by
  obtain rfl := R.eStr s.two.1; obtain rfl := R.eStr s.two.2
  exact .inr ⟨a, z, rfl, rfl, k _ _ _ _ _ h (s.pop.pop.pushS rfl)⟩
theorem niSg_ {a : Nat} {z : Str} (h : Q (.v (.bl (!decide (a ∈ z.cps.toList)))) ρ n) : GO c ρ n ds (rNiU K) (.v (.str ⟨#[a]⟩)) (.v (.str z)) Q := fun σ H vs x y F s k => by
  obtain rfl := R.eStr s.two.1; obtain rfl := R.eStr s.two.2
  exact .inr ⟨a, z, rfl, rfl, k _ _ _ _ _ h (s.pop.pop.pushS rfl)⟩
/-! ### is None -/
theorem R.isNon {v : V} {d : D} (h : R K g M H v d) : decide (v = .non) = match d with | .non => true | _ => false := by
  cases h <;> first | rfl | (exact decide_eq_false (fun e => nomatch e))
def isNo : D → Bool
  | .non => true
  | _ => false
theorem RO.isNon {a : Addr} {d : D} (h : RO K g M H a d) : false = isNo d := by
  cases d <;> first | exact h.elim | rfl
theorem R.isNon2 {w : V} {d : D} (h : R K g M H w d) : decide (w = .non) = isNo d := by rw [h.isNon]; cases d <;> rfl
theorem IR.non {it : I} {l : List Addr} {w : V} (sl : SRs K g M H ρ L σ) (h : IR K g M H ρ σ it l w) : decide (w = .non) = isNo it.val := by
  cases h with
  | v r => exact r.isNon2
  | o r => rw [show decide (V.ref _ = V.non) = false from rfl, r.isNon]; rfl
  | @b i _ _ h q =>
    rcases q with q | q | ⟨_, q⟩
    · obtain ⟨_, _, _, x, _, e2, e3, _⟩ := sl.at q
      rw [h] at e2; cases e2
      cases e3 with | ow r => rw [show decide (V.ref _ = V.non) = false from rfl, r.isNon]; rfl
    · obtain ⟨_, _, _, x, _, e2, e3, _⟩ := sl.at q
      rw [h] at e2; cases e2
      cases e3 with | v r => exact r.isNon2
    · obtain ⟨_, _, _, x, _, e2, e3, _⟩ := sl.at q
      rw [h] at e2; cases e2
      cases e3 with | me r => rw [show decide (V.ref _ = V.non) = false from rfl, r.isNon]; rfl
theorem isN_ {ix : I} (h : Q (.v (.bl (isNo ix.val))) ρ n) : GO c ρ n ds rIsN ix (.v .non) Q := fun σ H vs x y F ⟨L, B, s⟩ k => by
  obtain ⟨B', lx, ly, s2, mv, hx, hy⟩ := s.it2
  cases hy.r
  refine ⟨rfl, ?_⟩
  rw [hx.non s.sl]
  exact k _ _ _ _ _ h ⟨L, B', s2.pushR (.bl _)⟩
theorem notN_ {ix : I} (h : Q (.v (.bl (!isNo ix.val))) ρ n) : GO c ρ n ds rNotN ix (.v .non) Q := fun σ H vs x y F ⟨L, B, s⟩ k => by
  obtain ⟨B', lx, ly, s2, mv, hx, hy⟩ := s.it2
  cases hy.r
  refine ⟨rfl, ?_⟩
  rw [hx.non s.sl]
  exact k _ _ _ _ _ h ⟨L, B', s2.pushR (.bl _)⟩
/-! ### items and slices -/
theorem ix_ {it : I} {xs : List D} {i : Int} {d : D} (e : it.seq = some xs) (hi : atI xs i = some d) (h : Q (.v d) ρ n) : GO c ρ n ds (rIx K) it (.v (.int i)) Q := fun σ H vs x y F ⟨L, B, s⟩ k => by
  obtain ⟨B', lx, ly, s2, mv, hx, hy⟩ := s.it2
  cases hy.r
  obtain ⟨a, ws, rfl, hs, r⟩ := hx.seq s.sl e
  obtain ⟨w, hw, rw'⟩ := r.atI hi
  have fin := k _ _ _ _ _ h ⟨L, B', s2.pushR (rw'.mv mv)⟩
  rcases hs with hs | hs
  · exact .inl ⟨a, ws, i, w, rfl, rfl, hs, hw, fin⟩
  · exact .inr (.inl ⟨a, ws, i, w, rfl, rfl, hs, hw, fin⟩)
theorem ixS_ {z : Str} {i : Int} {a : Nat} (hz : z.length ≤ sizeLine) (hi : atI z.cps.toList i = some a) (h : Q (.v (.str ⟨#[a]⟩)) ρ n) : GO c ρ n ds (rIx K) (.v (.str z)) (.v (.int i)) Q := fun σ H vs x y F s k => by
  obtain rfl := R.eStr s.two.1; obtain rfl := R.eInt s.two.2
  exact .inr (.inr ⟨z, i, a, rfl, rfl, hz, hi, k _ _ _ _ _ h (s.pop.pop.pushS rfl)⟩)
def GP (c : Wd K) (ρ : List S) (n : Nat) (ds : List I) (t : TO) (Q : Option Int → QS) : Prop :=
  ∀ σ H vs (F : Option Int → Hp → Prop), St c ρ n ds σ H vs → (∀ o ρ' n' H', Q o ρ' n' → St c ρ' n' ds σ H' vs → F o H') → t σ H F
theorem nopart_ {QO : Option Int → QS} (h : QO none ρ n) : GP c ρ n ds tNoPart QO := fun σ H vs F s k => k _ _ _ _ h s
theorem part_ {te : TE} {QO : Option Int → QS} (h : GE c ρ n ds te fun it ρ' n' => ∃ i, it = .v (.int i) ∧ QO (some i) ρ' n') : GP c ρ n ds (tPart te) QO := fun σ H vs F s k =>
  h σ H vs _ s fun it ρ' n' v H' ⟨i, e, q⟩ s' => by
    subst e
    obtain rfl := R.eInt s'.one
    exact ⟨i, rfl, k _ _ _ _ q s'.pop⟩
/-- a slice of the topmost item -/
def GL (c : Wd K) (ρ : List S) (n : Nat) (ds : List I) (r : V → Option Int → Option Int → Hp → VK → Prop) (it : I) (lo hi : Option Int) (Q : QI) : Prop :=
  ∀ σ H vs x (F : VK), St c ρ n (it :: ds) σ H (x :: vs) → (∀ it ρ' n' v H', Q it ρ' n' → St c ρ' n' (it :: ds) σ H' (v :: vs) → F v H') → r x lo hi H F
theorem sl_ {r : V → Option Int → Option Int → Hp → VK → Prop} {te : TE} {tl th : TO} (h : GE c ρ n ds te fun it ρ1 n1 => GP c ρ1 n1 (it :: ds) tl fun lo ρ2 n2 => GP c ρ2 n2 (it :: ds) th fun hi ρ3 n3 => GL c ρ3 n3 ds r it lo hi Q) : GE c ρ n ds (L2.tSl r te tl th) Q := fun σ H vs F s k =>
  h σ H vs _ s fun it ρ1 n1 x H1 q1 s1 => q1 σ H1 (x :: vs) _ s1 fun lo ρ2 n2 H2 q2 s2 => q2 σ H2 (x :: vs) _ s2 fun hi ρ3 n3 H3 q3 s3 => q3 σ H3 vs x F s3 k
theorem slL_ {it : I} {xs : List D} {lo hi : Option Int} (e : it.val = .lst xs) (h : Q (.o (.lst (cutD xs lo hi))) ρ n) : GL c ρ n ds (rSlU K) it lo hi Q := fun σ H vs x F ⟨L, B, s⟩ k => by
  obtain ⟨B', lx, s2, mv, hx⟩ := s.it1
  obtain ⟨a, ws, rfl, ha, ra⟩ := hx.ls s.sl e
  refine .inl ⟨a, ws, rfl, SqL.of ha, fun p hp => k _ _ _ _ _ h ⟨L, _, s2.pushO hp ?_⟩⟩
  unfold cutV cutD
  rw [ra.len]
  exact ((ra.mv mv).drop _).take _
theorem slT_ {xs : List D} {lo hi : Option Int} (h : Q (.v (.tup (cutD xs lo hi))) ρ n) : GL c ρ n ds (rSlU K) (.v (.tup xs)) lo hi Q := fun σ H vs x F ⟨L, B, s⟩ k => by
  obtain ⟨B', lx, s2, mv, hx⟩ := s.it1
  cases hx.r with
  | @tup a ws _ ha ra =>
  refine .inr (.inl ⟨a, ws, rfl, ha.sqt, fun hw => ?_, fun _ p hp => k _ _ _ _ _ h ⟨L, _, s2.pushT hp ?_⟩⟩)
  · rw [ra.len] at hw
    have e : cutD xs lo hi = xs := by
      unfold cutD
      rw [hw.1, hw.2, List.drop_zero, Nat.sub_zero, List.take_length]
    rw [e] at h
    exact k _ _ _ _ _ h ⟨L, _, s2.pushR ((R.tup ha ra).mv mv)⟩
  · unfold cutV cutD
    rw [ra.len]
    exact ((ra.mv mv).drop _).take _
theorem slS_ {z : Str} {lo hi : Option Int} (hz : z.length ≤ sizeLine) (h : Q (.v (.str (cutS z lo hi))) ρ n) : GL c ρ n ds (rSlU K) (.v (.str z)) lo hi Q := fun σ H vs x F s k => by
  obtain rfl := R.eStr s.one
  exact .inr (.inr ⟨z, rfl, hz, k _ _ _ _ _ h (s.pop.pushS rfl)⟩)
theorem rev_ {te : TE} (h : GE c ρ n ds te fun it ρ' n' => ∃ xs, it.val = .lst xs ∧ Q (.o (.lst xs.reverse)) ρ' n') : GE c ρ n ds (tRevL K te) Q := fun σ H vs F s k =>
  h σ H vs _ s fun it ρ' n' x H' ⟨xs, e, q⟩ ⟨L, B, s⟩ => by
    obtain ⟨B', lx, s2, mv, hx⟩ := s.it1
    obtain ⟨a, ws, rfl, ha, ra⟩ := hx.ls s.sl e
    exact ⟨a, ws, rfl, SqL.of ha, fun p hp => k _ _ _ _ _ q ⟨L, _, s2.pushO hp (ra.mv mv).reverse⟩⟩
/-! ### len and others -/
section
variable {it : I}
theorem gb1 {r : List V → Hp → VK → Prop} (h : ∀ σ H vs x (F : VK) L B, StX c L B ρ n (it :: ds) σ H (x :: vs) → (∀ it ρ' n' v H', Q it ρ' n' → St c ρ' n' (it :: ds) σ H' (v :: vs) → F v H') → r [x] H F) : GB c ρ n ds r [it] Q := fun σ H vs xs F hl ⟨L, B, s⟩ k => by
  match xs, hl with
  | [x], _ => exact h σ H vs x F L B s k
theorem len_ {xs : List D} (e : it.seq = some xs) (h : Q (.v (.int xs.length)) ρ n) : GB c ρ n ds (rLenU K) [it] Q := gb1 fun σ H vs x F L B s k => by
  obtain ⟨B', lx, s2, mv, hx⟩ := s.it1
  obtain ⟨a, ws, rfl, hs, r⟩ := hx.seq s.sl e
  refine .inl ⟨a, ws, rfl, hs, ?_⟩
  rw [r.len]
  exact k _ _ _ _ _ h ⟨L, B', s2.pushR (.int _)⟩
theorem lenS_ {z : Str} (hz : z.length ≤ sizeLine) (h : Q (.v (.int z.length)) ρ n) : GB c ρ n ds (rLenU K) [.v (.str z)] Q := gb1 fun σ H vs x F L B s k => by
  obtain rfl := R.eStr ⟨_, s.val⟩
  exact .inr ⟨z, rfl, hz, k _ _ _ _ _ h ((St.pop ⟨L, B, s⟩).pushS rfl)⟩
theorem abs_ {i : Int} (h : Q (.v (.int (if i < 0 then -i else i))) ρ n) : GB c ρ n ds rAbs [.v (.int i)] Q := gb1 fun σ H vs x F L B s k => by
  obtain rfl := R.eInt ⟨_, s.val⟩
  exact ⟨i, rfl, k _ _ _ _ _ h ((St.pop ⟨L, B, s⟩).pushS rfl)⟩
theorem intI_ {i : Int} (h : Q (.v (.int i)) ρ n) : GB c ρ n ds rInt1 [.v (.int i)] Q := gb1 fun σ H vs x F L B s k => by
  obtain rfl := R.eInt ⟨_, s.val⟩
  exact .inl ⟨i, rfl, k _ _ _ _ _ h ((St.pop ⟨L, B, s⟩).pushS rfl)⟩
theorem intB_ {b : Bool} (h : Q (.v (.int (if b then 1 else 0))) ρ n) : GB c ρ n ds rInt1 [.v (.bl b)] Q := gb1 fun σ H vs x F L B s k => by
  obtain rfl := R.eBl ⟨_, s.val⟩
  exact .inr ⟨b, rfl, k _ _ _ _ _ h ((St.pop ⟨L, B, s⟩).pushS rfl)⟩
theorem boolB_ {b : Bool} (h : Q (.v (.bl b)) ρ n) : GB c ρ n ds HC.rBool1 [.v (.bl b)] Q := gb1 fun σ H vs x F L B s k => by
  obtain rfl := R.eBl ⟨_, s.val⟩
  exact .inr ⟨b, rfl, k _ _ _ _ _ h ((St.pop ⟨L, B, s⟩).pushS rfl)⟩
theorem reprI_ {i : Int} (hi : i.natAbs.log2 < 1920) (h : Q (.v (.str (toString i))) ρ n) : GB c ρ n ds (fun xs H Q => ∃ i : Int, xs = [.int i] ∧ i.natAbs.log2 < 1920 ∧ Q (.str (toString i)) H) [.v (.int i)] Q := gb1 fun σ H vs x F L B s k => by
  obtain rfl := R.eInt ⟨_, s.val⟩
  exact ⟨i, rfl, hi, k _ _ _ _ _ h ((St.pop ⟨L, B, s⟩).pushS rfl)⟩
theorem listOf_ {xs : List D} (e : it.seq = some xs) (h : Q (.o (.lst xs)) ρ n) : GB c ρ n ds (rListOf K) [it] Q := gb1 fun σ H vs x F L B s k => by
  obtain ⟨B', lx, s2, mv, hx⟩ := s.it1
  obtain ⟨a, ws, rfl, hs, r⟩ := hx.seq s.sl e
  exact ⟨a, ws, rfl, hs, fun p hp => k _ _ _ _ _ h ⟨L, _, s2.pushO hp (r.mv mv)⟩⟩
theorem tupleOfL_ {xs : List D} (e : it.val = .lst xs) (h : Q (.v (.tup xs)) ρ n) : GB c ρ n ds (rTupleOf K) [it] Q := gb1 fun σ H vs x F L B s k => by
  obtain ⟨B', lx, s2, mv, hx⟩ := s.it1
  obtain ⟨a, ws, rfl, ha, r⟩ := hx.ls s.sl e
  exact ⟨a, ws, rfl, .inl ⟨SqL.of ha, fun p hp => k _ _ _ _ _ h ⟨L, _, s2.pushT hp (r.mv mv)⟩⟩⟩
theorem tupleOfT_ {xs : List D} (h : Q (.v (.tup xs)) ρ n) : GB c ρ n ds (rTupleOf K) [.v (.tup xs)] Q := gb1 fun σ H vs x F L B s k => by
  have s0 := s
  cases s.val with
  | @tup a ws _ ha ra => exact ⟨a, ws, rfl, .inr ⟨ha.sqt, k _ _ _ _ _ h ⟨L, B, s0⟩⟩⟩
theorem sum_ {ns : List Int} (e : it.val = .lst (ns.map D.int)) (h : Q (.v (.int ns.sum)) ρ n) : GB c ρ n ds (rSum K) [it] Q := gb1 fun σ H vs x F L B s k => by
  obtain ⟨B', lx, s2, mv, hx⟩ := s.it1
  obtain ⟨a, ws, rfl, ha, r⟩ := hx.ls s.sl e
  obtain rfl := r.ints
  exact ⟨a, ns, rfl, SqL.of ha, k _ _ _ _ _ h ⟨L, B', s2.pushR (.int _)⟩⟩
theorem any_ {bs : List Bool} (e : it.val = .lst (bs.map D.bl)) (h : Q (.v (.bl (bs.any id))) ρ n) : GB c ρ n ds (rAny K) [it] Q := gb1 fun σ H vs x F L B s k => by
  obtain ⟨B', lx, s2, mv, hx⟩ := s.it1
  obtain ⟨a, ws, rfl, ha, r⟩ := hx.ls s.sl e
  obtain rfl := r.bls
  exact ⟨a, bs, rfl, SqL.of ha, k _ _ _ _ _ h ⟨L, B', s2.pushR (.bl _)⟩⟩
theorem all_ {bs : List Bool} (e : it.val = .lst (bs.map D.bl)) (h : Q (.v (.bl (bs.all id))) ρ n) : GB c ρ n ds (rAll K) [it] Q := gb1 fun σ H vs x F L B s k => by
  obtain ⟨B', lx, s2, mv, hx⟩ := s.it1
  obtain ⟨a, ws, rfl, ha, r⟩ := hx.ls s.sl e
  obtain rfl := r.bls
  exact ⟨a, bs, rfl, SqL.of ha, k _ _ _ _ _ h ⟨L, B', s2.pushR (.bl _)⟩⟩
theorem sorted_ {ns : List Int} (e : it.val = .lst (ns.map D.int)) (hl : ns.length < 64) (h : ∀ ms : List Int, ms.Perm ns → ms.Pairwise (· ≤ ·) → Q (.o (.lst (ms.map D.int))) ρ n) : GB c ρ n ds (rSorted K) [it] Q := gb1 fun σ H vs x F L B s k => by
  obtain ⟨B', lx, s2, mv, hx⟩ := s.it1
  obtain ⟨a, ws, rfl, ha, r⟩ := hx.ls s.sl e
  obtain rfl := r.ints
  exact ⟨a, ns, rfl, SqL.of ha, hl, fun ms p hp hq np => k _ _ _ _ _ (h ms hp hq) ⟨L, _, s2.pushO np (RA.ofInts ms)⟩⟩
theorem max_ {ns : List Int} (e : it.val = .lst (ns.map D.int)) (hl : 0 < ns.length) (h : ∀ m, m ∈ ns → (∀ y, y ∈ ns → y ≤ m) → Q (.v (.int m)) ρ n) : GB c ρ n ds (rMax K) [it] Q := gb1 fun σ H vs x F L B s k => by
  obtain ⟨B', lx, s2, mv, hx⟩ := s.it1
  obtain ⟨a, ws, rfl, ha, r⟩ := hx.ls s.sl e
  obtain rfl := r.ints
  exact ⟨a, ns, rfl, SqL.of ha, hl, fun m hm hy => k _ _ _ _ _ (h m hm hy) ⟨L, B', s2.pushR (.int _)⟩⟩
theorem min_ {ns : List Int} (e : it.val = .lst (ns.map D.int)) (hl : 0 < ns.length) (h : ∀ m, m ∈ ns → (∀ y, y ∈ ns → m ≤ y) → Q (.v (.int m)) ρ n) : GB c ρ n ds (rMin K) [it] Q := gb1 fun σ H vs x F L B s k => by
  obtain ⟨B', lx, s2, mv, hx⟩ := s.it1
  obtain ⟨a, ws, rfl, ha, r⟩ := hx.ls s.sl e
  obtain rfl := r.ints
  exact ⟨a, ns, rfl, SqL.of ha, hl, fun m hm hy => k _ _ _ _ _ (h m hm hy) ⟨L, B', s2.pushR (.int _)⟩⟩
theorem max2_ {i j : Int} (h : Q (.v (.int (if j > i then j else i))) ρ n) : GB c ρ n ds rMax2 [.v (.int i), .v (.int j)] Q := fun σ H vs xs F hl s k => by
  match xs, hl with
  | [x, y], _ =>
  obtain rfl := R.eInt (St.one s); obtain rfl := R.eInt (St.one (St.pop s))
  exact ⟨i, j, rfl, k _ _ _ _ _ h (St.pushS (St.pop (St.pop s)) rfl)⟩
theorem min2_ {i j : Int} (h : Q (.v (.int (if j < i then j else i))) ρ n) : GB c ρ n ds rMin2 [.v (.int i), .v (.int j)] Q := fun σ H vs xs F hl s k => by
  match xs, hl with
  | [x, y], _ =>
  obtain rfl := R.eInt (St.one s); obtain rfl := R.eInt (St.one (St.pop s))
  exact ⟨i, j, rfl, k _ _ _ _ _ h (St.pushS (St.pop (St.pop s)) rfl)⟩
end
end
end HD
/-! methods, instances, constructors on data -/
namespace HD
open PySem PySem.Spec PyProof.Rows L2 HX
section
variable {K : PySem.W.Frag} {c : Wd K} {ρ : List S} {n : Nat} {ds : List I} {L B : List Addr} {σ : L2.St} {H H' : Hp} {vs : List V} {v : V} {p : Addr} {Q : QI} {g : Addr} {M : Addr → Prop}
/-! ### methods of built-in types -/
def tyD (T : String) : D → Prop
  | .lst _ => T = "list"
  | .str _ => T = "str"
  | .int _ => T = "int"
  | _ => False
theorem IR.cases {it : I} {l : List Addr} {w : V} (sl : SRs K g M H ρ L σ) (h : IR K g M H ρ σ it l w) : R K g M H w it.val ∨ ∃ a, w = .ref a ∧ RO K g M H a it.val := by
  cases h with
  | v r => exact .inl r
  | o r => exact .inr ⟨_, rfl, r⟩
  | @b i _ _ h q =>
    rcases q with q | q | ⟨_, q⟩
    · obtain ⟨_, _, _, x, _, e2, e3, _⟩ := sl.at q
      rw [h] at e2; cases e2
      cases e3 with | ow r => exact .inr ⟨_, rfl, r⟩
    · obtain ⟨_, _, _, x, _, e2, e3, _⟩ := sl.at q
      rw [h] at e2; cases e2
      cases e3 with | v r => exact .inl r
    · obtain ⟨_, _, _, x, _, e2, e3, _⟩ := sl.at q
      rw [h] at e2; cases e2
      cases e3 with | me r => exact .inr ⟨_, rfl, r⟩
theorem tyD.okv {T : String} {it : I} {l : List Addr} {w : V} (sl : SRs K g M H ρ L σ) (h : IR K g M H ρ σ it l w) (t : tyD T it.val) : tyV K T w H := by
  rcases h.cases sl with r | ⟨a, rfl, r⟩
  · generalize it.val = d at r t
    cases r <;> first | exact t.elim | exact t | skip
    · rename_i n e q; exact .inl ⟨t, _, SqL.of e⟩
  · generalize it.val = d at r t
    cases d <;> first | exact r.elim | exact t.elim | skip
    · obtain ⟨_, e, _⟩ := r; exact .inl ⟨t, _, SqL.of e⟩
theorem bm_ {T : String} {r : V → List V → Hp → VK → Prop} {to : TE} {t : TA} (h : GE c ρ n ds to fun ix ρ1 n1 => tyD T ix.val ∧ GA c ρ1 n1 (ix :: ds) t fun its ρ2 n2 => GM c ρ2 n2 ds r ix its Q) : GE c ρ n ds (tBM K T r to t) Q := fun σ H vs F s k =>
  h σ H vs _ s fun ix ρ1 n1 x H1 ⟨ht, q⟩ ⟨L, B, s1⟩ => by
    obtain ⟨B', lx, s2, mv, hx⟩ := s1.it1
    exact ⟨tyD.okv s1.sl hx ht, q σ H1 (x :: vs) _ ⟨L, B, s1⟩ fun its ρ2 n2 xs H2 q2 hl s3 => q2 σ H2 vs x xs F hl s3 k⟩
theorem bm0_ {T : String} {r : V → List V → Hp → VK → Prop} {to : TE} (h : GE c ρ n ds to fun ix ρ1 n1 => tyD T ix.val ∧ GM c ρ1 n1 ds r ix [] Q) : GE c ρ n ds (tBM0 K T r to) Q := fun σ H vs F s k =>
  h σ H vs _ s fun ix ρ1 n1 x H1 ⟨ht, q⟩ ⟨L, B, s1⟩ => by
    obtain ⟨B', lx, s2, mv, hx⟩ := s1.it1
    exact ⟨tyD.okv s1.sl hx ht, q σ H1 vs x [] F rfl ⟨L, B, s1⟩ k⟩
/-- the item beneath the topmost one is what slot i owns -/
theorem slotOf {i : Nat} {d : D} {it : I} {x y : V} (s : StX c L B ρ n (it :: .b i d :: ds) σ H (y :: x :: vs)) : σ[i]? = some (some x) := by
  obtain ⟨_, hx⟩ := IRs.mid (ex := [it]) (ews := [y]) rfl s.it
  cases hx with | b e _ => exact e
theorem append_ {i : Nat} {it : I} {d0 : D} {xs : List D} (hc : clean ds = true) (hi : (frz1 ρ it)[i]? = some (.ow (.lst xs))) (hl : Nat.ble xs.length 100000 = true) (h : Q (.v .non) ((frz1 ρ it).set i (.ow (.lst (xs ++ [it.val])))) n) : GM c ρ n ds rAppend (.b i d0) [it] Q := fun σ H vs x ys F hy s k => by
  match ys, hy with
  | [y], _ =>
  obtain ⟨L, B, s⟩ := St.frz1 s
  have hs := slotOf s
  have hv := s.val
  obtain ⟨B', lx, ly, s2, mv, _, _⟩ := s.it2
  obtain ⟨a, e1, ⟨ws, ha, ra⟩, w⟩ := s2.wrS hc hi
  rw [hs] at e1; cases e1
  refine ⟨a, ws, y, rfl, rfl, ha, ?_, k _ _ _ _ _ h ⟨L, B', (w (t := .lst (xs ++ [it.val])) (o := .lst (ws ++ [y])) fun m => ⟨_, upd_same, ?_⟩).pushR .non⟩⟩
  · rw [ra.len]; exact Nat.lt_of_lt_of_le (Nat.lt_succ_of_le (Nat.le_of_ble_eq_true hl)) (by decide)
  · exact (ra.append (.cons (hv.mv mv) .nil)).mv m
theorem extend_ {i : Nat} {it : I} {d0 : D} {xs zs : List D} (hc : clean ds = true) (hi : ρ[i]? = some (.ow (.lst xs))) (hz : it.val = .lst zs) (hl : xs.length + zs.length ≤ 100000) (h : Q (.v .non) (ρ.set i (.ow (.lst (xs ++ zs)))) n) : GM c ρ n ds rExtend (.b i d0) [it] Q := fun σ H vs x ys F hy ⟨L, B, s⟩ k => by
  match ys, hy with
  | [y], _ =>
  have hs := slotOf s
  obtain ⟨B', lx, ly, s2, mv, hx, hit⟩ := s.it2
  obtain ⟨b, us, rfl, hb, rb⟩ := hit.ls s.sl hz
  obtain ⟨a, e1, ⟨ws, ha, ra⟩, w⟩ := s2.wrS hc hi
  rw [hs] at e1; cases e1
  refine ⟨a, b, ws, us, rfl, rfl, ha, hb, ?_, k _ _ _ _ _ h ⟨L, B', (w (t := .lst (xs ++ zs)) (o := .lst (ws ++ us)) fun m => ⟨_, upd_same, ?_⟩).pushR .non⟩⟩
  · rw [ra.len, rb.len]; exact Nat.le_trans hl (by decide)
  · exact (ra.append (rb.mv mv)).mv m
theorem slotOf1 {i : Nat} {d : D} {x : V} (s : StX c L B ρ n (.b i d :: ds) σ H (x :: vs)) : σ[i]? = some (some x) := by
  obtain ⟨_, hx⟩ := IRs.mid (ex := []) (ews := []) rfl s.it
  cases hx with | b e _ => exact e
theorem pop_ {i : Nat} {d0 d : D} {xs : List D} (hc : clean ds = true) (hi : ρ[i]? = some (.ow (.lst xs))) (hd : xs[xs.length - 1]? = some d) (h : Q (.v d) (ρ.set i (.ow (.lst xs.dropLast))) n) : GM c ρ n ds rPop (.b i d0) [] Q := fun σ H vs x ys F hy ⟨L, B, s⟩ k => by
  match ys, hy with
  | [], _ =>
  have hs := slotOf1 s
  obtain ⟨B', lx, s2, mv, hx⟩ := s.it1
  obtain ⟨a, e1, ⟨ws, ha, ra⟩, w⟩ := s2.wrS hc hi
  rw [hs] at e1; cases e1
  obtain ⟨z, hz, rz⟩ := ra.at hd
  have s3 : StX c L B' (ρ.set i (.ow (.lst xs.dropLast))) n ds σ (upd H a (.lst ws.dropLast)) vs := w fun m => ⟨_, upd_same, (ra.dropLast).mv m⟩
  have mo : Mv (Mo c (L ++ B')) (Mo c (L ++ B')) H (upd H a (.lst ws.dropLast)) := mv_own (by
    obtain ⟨L1, l, L2, x, f1, f2, f3, _⟩ := s2.sl.at hi
    rw [hs] at f2; cases f2
    cases f3
    rw [f1]; simp)
  exact ⟨a, ws, z, rfl, rfl, ha, by rw [ra.len]; exact hz, k _ _ _ _ _ h ⟨L, B', s3.pushR (rz.mv mo)⟩⟩
theorem lcount_ {ix : I} {ns : List Int} {j : Int} (e : ix.val = .lst (ns.map D.int)) (h : Q (.v (.int (ns.count j : Nat))) ρ n) : GM c ρ n ds (rCntI K) ix [.v (.int j)] Q := fun σ H vs x ys F hy ⟨L, B, s⟩ k => by
  match ys, hy with
  | [y], _ =>
  obtain ⟨B', lx, ly, s2, mv, hx, hit⟩ := StX.it2 (ix := ix) (iy := .v (.int j)) s
  cases hit.r
  obtain ⟨a, ws, rfl, ha, ra⟩ := hx.ls s.sl e
  obtain rfl := ra.ints
  exact ⟨a, ns, j, rfl, rfl, SqL.of ha, k _ _ _ _ _ h ⟨L, B', s2.pushR (.int _)⟩⟩
/-! ### x[i] = e -/
def GX (c : Wd K) (ρ : List S) (n : Nat) (ds : List I) (t : TSet) (io ii it : I) (Q : QS) : Prop :=
  ∀ σ H vs o i v (F : Hp → Prop), St c ρ n (ii :: io :: it :: ds) σ H (i :: o :: v :: vs) → (∀ ρ' n' H', Q ρ' n' → St c ρ' n' ds σ H' vs → F H') → t o i v H F
theorem gsub_ {to ti : TE} {t : TSet} {it : I} {QG : QS} (h : GE c ρ n (it :: ds) to fun io ρ1 n1 => GE c ρ1 n1 (io :: it :: ds) ti fun ii ρ2 n2 => GX c ρ2 n2 ds t io ii it QG) : GG c ρ n ds (gSub to ti t) it QG := fun σ H vs v F s k =>
  h σ H (v :: vs) _ s fun io ρ1 n1 o H1 q1 s1 => q1 σ H1 (o :: v :: vs) _ s1 fun ii ρ2 n2 i H2 q2 s2 => q2 σ H2 vs o i v _ s2 fun ρ3 n3 H3 q3 s3 => k _ _ _ _ q3 s3
theorem setL_ {i : Nat} {it : I} {d0 : D} {xs : List D} {j : Int} {m : Nat} {QG : QS} (hc : clean ds = true) (hi : (frz1 ρ it)[i]? = some (.ow (.lst xs))) (hj : ixN xs.length j = some m) (h : QG ((frz1 ρ it).set i (.ow (.lst (xs.set m it.val)))) n) : GX c ρ n ds rSetL (.b i d0) (.v (.int j)) it QG := fun σ H vs o y v F s k => by
  have s1 := St.rot' (is := [.v (.int j), .b i d0]) (ws := [y, o]) rfl s
  obtain ⟨L, B, s⟩ := St.frz1 s1
  have hv := s.val
  obtain ⟨_, hy⟩ := IRs.mid (ex := [.v it.val]) (ews := [v]) rfl s.it
  cases hy.r
  obtain ⟨_, ho⟩ := IRs.mid (ex := [.v it.val, .v (.int j)]) (ews := [v, .int j]) rfl s.it
  have hs : σ[i]? = some (some o) := by cases ho with | b e _ => exact e
  obtain ⟨B1, h1, t1⟩ := s.it.tl
  obtain ⟨B2, h2, t2⟩ := IRs.tl t1
  obtain ⟨B3, h3, t3⟩ := IRs.tl t2
  obtain ⟨s2, mv⟩ := s.cutB ((h3.trans h2).trans h1) t3
  obtain ⟨a, e1, ⟨ws, ha, ra⟩, w⟩ := s2.wrS hc hi
  rw [hs] at e1; cases e1
  refine ⟨a, ws, j, m, rfl, rfl, ha, by rw [ra.len]; exact hj, k _ _ _ h ⟨L, B3, w fun mm => ⟨_, upd_same, (ra.set m (hv.mv mv)).mv mm⟩⟩⟩
/-! ### isinstance -/
/-- the built-in type of a value -/
def D.tn : D → Option String
  | .non => some "NoneType"
  | .bl _ => some "bool"
  | .int _ => some "int"
  | .str _ => some "str"
  | .lst _ => some "list"
  | .tup _ => some "tuple"
  | _ => none
theorem R.tn {v : V} {d : D} {t : String} (h : R K g M H v d) (e : d.tn = some t) : TyX K H v (.type t) := by
  cases h <;> first | (cases e; done) | skip
  · cases e; exact .base .non
  · cases e; exact .base (.bl _)
  · cases e; exact .base (.int _)
  · cases e; exact .base (.str _)
  · cases e; rename_i h _; exact .base (.lst h)
  · cases e
    rename_i h _
    rcases h with h | h
    · exact .base (.tup h.2)
    · rcases h with (h | ⟨_, h⟩) | ⟨o, its, m, h1, h2, _⟩
      · cases h
      · cases h
      · exact .kTuple h1 h2
theorem RO.tn {a : Addr} {d : D} {t : String} (h : RO K g M H a d) (e : d.tn = some t) : TyX K H (.ref a) (.type t) := by
  cases d <;> first | exact h.elim | (cases e; done) | skip
  · cases e; obtain ⟨_, h, _⟩ := h; exact .base (.lst h)
theorem IR.tn {it : I} {l : List Addr} {w : V} {t : String} (sl : SRs K g M H ρ L σ) (h : IR K g M H ρ σ it l w) (e : it.val.tn = some t) : TyX K H w (.type t) := by
  rcases h.cases sl with r | ⟨a, rfl, r⟩
  · exact r.tn e
  · exact r.tn e
theorem isiB_ {it : I} {t u : String} {b : Bool} (e : it.val.tn = some t) (hk : PySem.W.kitOne K (.type t) (.type u) = some b) (h : Q (.v (.bl b)) ρ n) : GB c ρ n ds (rIsi K) [it, .v (.ty u)] Q := fun σ H vs xs F hl ⟨L, B, s⟩ k => by
  match xs, hl with
  | [x, y], _ =>
  have s1 : St c ρ n (.v (.ty u) :: it :: ds) σ H (y :: x :: vs) := St.rot (is := [.v (.ty u)]) (ws := [y]) rfl ⟨L, B, s⟩
  obtain ⟨L, B, s1⟩ := s1
  obtain ⟨B', lx, ly, s2, mv, hx, hy⟩ := s1.it2
  cases hy.r
  exact ⟨x, .ty u, .type t, .type u, b, rfl, .ty u, hx.tn s1.sl e, hk, k _ _ _ _ _ h ⟨L, B', s2.pushR (.bl _)⟩⟩
/-- a built-in value and an own class -/
theorem isiBO_ {it : I} {t : String} {C : Addr} {b : Bool} (e : it.val.tn = some t) (hk : PySem.W.kitOne K (.type t) (.ref C) = some b) (h : Q (.v (.bl b)) ρ n) : GB c ρ n ds (rIsi K) [it, .v (.glo C)] Q := fun σ H vs xs F hl ⟨L, B, s⟩ k => by
  match xs, hl with
  | [x, y], _ =>
  obtain ⟨L, B, s1⟩ := (St.rot (is := [.v (.glo C)]) (ws := [y]) rfl ⟨L, B, s⟩ : St c ρ n (.v (.glo C) :: it :: ds) σ H (y :: x :: vs))
  obtain ⟨B', lx, ly, s2, mv, hx, hy⟩ := s1.it2
  cases hy.r
  exact ⟨x, .ref C, .type t, .ref C, b, rfl, .own C, hx.tn s1.sl e, hk, k _ _ _ _ _ h ⟨L, B', s2.pushR (.bl _)⟩⟩
theorem IR.ins {it : I} {l : List Addr} {w : V} {C : Addr} {fs : List (Str × D)} (sl : SRs K g M H ρ L σ) (h : IR K g M H ρ σ it l w) (e : it.val = .ins C fs) : ∃ a dx fv, w = .ref a ∧ H a = some (.ins C dx fv) ∧ RF K g M H fv fs := by
  rcases h.cases sl with r | ⟨a, rfl, r⟩
  · rw [e] at r; cases r with | ins n h r => exact ⟨_, _, _, rfl, h, r⟩
  · rw [e] at r; obtain ⟨dx, fv, h, r⟩ := r; exact ⟨a, dx, fv, rfl, h, r⟩
/-- an instance and an own class -/
theorem isiO_ {it : I} {C E : Addr} {nm : Str} {CP : Addr} {fs : List (Str × D)} {b : Bool} (e : it.val = .ins C fs) (pc : HC.PC K CP C nm) (hk : PySem.W.kitOne K (.ref C) (.ref E) = some b) (h : Q (.v (.bl b)) ρ n) : GB c ρ n ds (rIsi K) [it, .v (.glo E)] Q := fun σ H vs xs F hl ⟨L, B, s⟩ k => by
  match xs, hl with
  | [x, y], _ =>
  obtain ⟨L, B, s1⟩ := (St.rot (is := [.v (.glo E)]) (ws := [y]) rfl ⟨L, B, s⟩ : St c ρ n (.v (.glo E) :: it :: ds) σ H (y :: x :: vs))
  obtain ⟨B', lx, ly, s2, mv, hx, hy⟩ := s1.it2
  cases hy.r
  obtain ⟨a, dx, fv, rfl, ha, _⟩ := hx.ins s1.sl e
  exact ⟨.ref a, .ref E, .ref C, .ref E, b, rfl, .own E, pc.ty ha, hk, k _ _ _ _ _ h ⟨L, B', s2.pushR (.bl _)⟩⟩
/-- an instance and a built-in type -/
theorem isiOB_ {it : I} {C : Addr} {u : String} {nm : Str} {CP : Addr} {fs : List (Str × D)} {b : Bool} (e : it.val = .ins C fs) (pc : HC.PC K CP C nm) (hk : PySem.W.kitOne K (.ref C) (.type u) = some b) (h : Q (.v (.bl b)) ρ n) : GB c ρ n ds (rIsi K) [it, .v (.ty u)] Q := fun σ H vs xs F hl ⟨L, B, s⟩ k => by
  match xs, hl with
  | [x, y], _ =>
  obtain ⟨L, B, s1⟩ := (St.rot (is := [.v (.ty u)]) (ws := [y]) rfl ⟨L, B, s⟩ : St c ρ n (.v (.ty u) :: it :: ds) σ H (y :: x :: vs))
  obtain ⟨B', lx, ly, s2, mv, hx, hy⟩ := s1.it2
  cases hy.r
  obtain ⟨a, dx, fv, rfl, ha, _⟩ := hx.ins s1.sl e
  exact ⟨.ref a, .ty u, .ref C, .type u, b, rfl, .ty u, pc.ty ha, hk, k _ _ _ _ _ h ⟨L, B', s2.pushR (.bl _)⟩⟩
/-! ### fields, classes, names -/
theorem RF.get {fv : List (Str × V)} {fs : List (Str × D)} {f : Str} {d : D} (h : RF K g M H fv fs) (e : fs.lookup f = some d) : ∃ v, fv.lookup f = some v ∧ R K g M H v d := h.at e
theorem fld_ {ta : TE} {f : Str} (h : GE c ρ n ds ta fun it ρ' n' => ∃ C fs d, it.val = .ins C fs ∧ Cls K C ∧ NoAttr K C f ∧ fs.lookup f = some d ∧ Q (.v d) ρ' n') : GE c ρ n ds (tFld K ta f) Q := fun σ H vs F s k =>
  h σ H vs _ s fun it ρ' n' x H' ⟨C, fs, d, e, hc, hn, hl, q⟩ ⟨L, B, s⟩ => by
    obtain ⟨B', lx, s2, mv, hx⟩ := s.it1
    obtain ⟨a, dx, fv, rfl, ha, rf⟩ := hx.ins s.sl e
    obtain ⟨v, hv, rv⟩ := rf.at hl
    exact ⟨a, C, dx, fv, v, rfl, ha, hc, hn, hv, k _ _ _ _ _ q ⟨L, B', s2.pushR (rv.mv mv)⟩⟩
theorem cls_ {ta : TE} (h : GE c ρ n ds ta fun it ρ' n' => ∃ C fs, it.val = .ins C fs ∧ HP.HasCls K C ∧ Q (.v (.glo C)) ρ' n') : GE c ρ n ds (HP.tClass K ta) Q := fun σ H vs F s k =>
  h σ H vs _ s fun it ρ' n' x H' ⟨C, fs, e, hc, q⟩ ⟨L, B, s⟩ => by
    obtain ⟨B', lx, s2, mv, hx⟩ := s.it1
    obtain ⟨a, dx, fv, rfl, ha, rf⟩ := hx.ins s.sl e
    exact ⟨a, C, dx, fv, rfl, ha, hc, k _ _ _ _ _ q ⟨L, B', s2.pushR (.glo C)⟩⟩
theorem name_ {ta : TE} (h : GE c ρ n ds ta fun it ρ' n' => ∃ C nm, it = .v (.glo C) ∧ HP.ClsNm K C nm ∧ Q (.v (.str nm)) ρ' n') : GE c ρ n ds (HP.tName K ta) Q := fun σ H vs F s k =>
  h σ H vs _ s fun it ρ' n' x H' ⟨C, nm, e, hc, q⟩ s => by
    subst e
    obtain ⟨M, r⟩ := s.one
    cases r
    exact ⟨C, nm, rfl, hc, k _ _ _ _ _ q (s.pop.pushS rfl)⟩
/-! ### self.f = e -/
def putD (f : Str) (d : D) : List (Str × D) → List (Str × D)
  | [] => [(f, d)]
  | (x, u) :: r => if x = f then (x, d) :: r else (x, u) :: putD f d r
theorem RF.put {f : Str} {v : V} {d : D} (h : R K g M H v d) : ∀ {fv : List (Str × V)} {fs : List (Str × D)}, RF K g M H fv fs → RF K g M H (putF f v fv) (putD f d fs)
  | _, _, .nil => by unfold putF putD; exact .cons h .nil
  | _, _, .cons (f := x) a b => by
    unfold putF putD
    by_cases e : x = f
    · rw [if_pos e, if_pos e]; exact .cons h b
    · rw [if_neg e, if_neg e]; exact .cons a (RF.put h b)
theorem RF.len : ∀ {fv : List (Str × V)} {fs : List (Str × D)}, RF K g M H fv fs → fv.length = fs.length
  | _, _, .nil => rfl
  | _, _, .cons a b => by rw [List.length_cons, List.length_cons, RF.len b]
theorem setf_ {ta tv : TE} {f : Str} {nx bk ct : QS} {rt : I → Nat → Prop} (h : GE c ρ n ds tv fun it ρ1 n1 => GE c ρ1 n1 (it :: ds) ta fun io ρ2 n2 => ∃ i d0 C fs, io = .b i d0 ∧ clean ds = true ∧ (frz1 ρ2 it)[i]? = some (.ow (.ins C fs)) ∧ Cls K C ∧ NoAttr K C f ∧ Nat.ble fs.length 900 = true ∧ nx ((frz1 ρ2 it).set i (.ow (.ins C (putD f it.val fs)))) n2) : GS c ρ n ds (sFld K ta tv f) ⟨nx, rt, bk, ct⟩ := fun σ H vs E s k =>
  h σ H vs _ s fun it ρ1 n1 y H1 q1 s1 => q1 σ H1 (y :: vs) _ s1 fun io ρ2 n2 x H2 ⟨i, d0, C, fs, e, hc, hi, hC, hn, hl, q⟩ s2 => by
    subst e
    have s3 := St.frz1 (St.rot' (is := [.b i d0]) (ws := [x]) rfl s2)
    obtain ⟨L, B, s3⟩ := s3
    have hv := s3.val
    have hs : σ[i]? = some (some x) := slotOf s3
    obtain ⟨B', lx, ly, s4, mv, _, _⟩ := s3.it2
    obtain ⟨a, e1, ⟨dx, fv, ha, rf⟩, w⟩ := s4.wrS hc hi
    rw [hs] at e1; cases e1
    have := Nat.le_of_ble_eq_true hl
    have hlen := rf.len
    exact ⟨a, C, dx, fv, rfl, ha, hC, hn, by omega, k.nx _ _ _ _ q ⟨L, B', w fun m => ⟨dx, _, upd_same, (rf.put (hv.mv mv)).mv m⟩⟩⟩
end
end HD
/-! chains of comparisons, constructors, own == and truth, calls by names -/
namespace HD
open PySem PySem.Spec PyProof.Rows L2 HX
section
variable {K : PySem.W.Frag} {c : Wd K} {ρ : List S} {n : Nat} {ds : List I} {L B : List Addr} {σ : L2.St} {H H' : Hp} {vs : List V} {v : V} {p : Addr} {Q : QI} {QB : Bool → QS} {g : Addr} {M : Addr → Prop}
/-! ### chains -/
theorem St.dup {d : D} {ix : I} {x y : V} (s : St c ρ n (.v d :: ix :: ds) σ H (y :: x :: vs)) : St c ρ n (.v d :: ix :: .v d :: ds) σ H (y :: x :: y :: vs) := by
  obtain ⟨L, B, s⟩ := s
  have s2 : St c ρ n (.v d :: ([.v d, ix] ++ ds)) σ H (y :: ([y, x] ++ vs)) := ⟨L, B, s.pushR s.val⟩
  exact St.rot (is := [.v d, ix]) (ws := [y, x]) rfl s2
theorem chain_ {r r' : R2} {ta tb tc : TE} (h : GE c ρ n ds ta fun ix ρ1 n1 => GE c ρ1 n1 (ix :: ds) tb fun iy ρ2 n2 => ∃ d, iy = .v d ∧ GO c ρ2 n2 (.v d :: ds) r ix (.v d) fun iz ρ3 n3 => ∃ b, iz = .v (.bl b) ∧ if b = true then GE c ρ3 n3 (.v d :: ds) tc fun iw ρ4 n4 => GO c ρ4 n4 ds r' (.v d) iw Q else Q (.v (.bl false)) ρ3 n3) : GE c ρ n ds (tChain r r' ta tb tc) Q := fun σ H vs F s k =>
  h σ H vs _ s fun ix ρ1 n1 x H1 q1 s1 => q1 σ H1 (x :: vs) _ s1 fun iy ρ2 n2 y H2 ⟨d, e, q2⟩ s2 => by
    subst e
    refine q2 σ H2 (y :: vs) x y _ s2.dup fun iz ρ3 n3 z H3 ⟨b, e, q3⟩ s3 => ?_
    subst e
    obtain rfl := R.eBl s3.one
    refine ⟨b, rfl, ?_⟩
    cases b with
    | true => rw [if_pos rfl] at q3 ⊢; exact q3 σ H3 (y :: vs) _ s3.pop fun iw ρ4 n4 w H4 q4 s4 => q4 σ H4 vs y w F s4 k
    | false => rw [if_neg Bool.false_ne_true] at q3 ⊢; exact k _ _ _ _ _ q3 (s3.pop.pop.pushS rfl)
def GC (c : Wd K) (ρ : List S) (n : Nat) (ds : List I) (t : V → TE) (d : D) (Q : QI) : Prop :=
  ∀ σ H vs x (F : VK), St c ρ n (.v d :: ds) σ H (x :: vs) → (∀ it ρ' n' v H', Q it ρ' n' → St c ρ' n' (it :: ds) σ H' (v :: vs) → F v H') → t x σ H F
def GC2 (c : Wd K) (ρ : List S) (n : Nat) (ds : List I) (t : V → TT) (d : D) (Q : Bool → QS) : Prop :=
  ∀ σ H vs x (F : Bool → Hp → Prop), St c ρ n (.v d :: ds) σ H (x :: vs) → (∀ b ρ' n' H', Q b ρ' n' → St c ρ' n' ds σ H' vs → F b H') → t x σ H F
theorem ch_ {ta : TE} {t : V → TE} (h : GE c ρ n ds ta fun ix ρ1 n1 => ∃ d, ix = .v d ∧ GC c ρ1 n1 ds t d Q) : GE c ρ n ds (HP.tCh ta t) Q := fun σ H vs F s k =>
  h σ H vs _ s fun ix ρ1 n1 x H1 ⟨d, e, q1⟩ s1 => by subst e; exact q1 σ H1 vs x F s1 k
theorem ch2_ {ta : TE} {t : V → TT} (h : GE c ρ n ds ta fun ix ρ1 n1 => ∃ d, ix = .v d ∧ GC2 c ρ1 n1 ds t d QB) : GT c ρ n ds (HP.tCh2 ta t) QB := fun σ H vs F s k =>
  h σ H vs _ s fun ix ρ1 n1 x H1 ⟨d, e, q1⟩ s1 => by subst e; exact q1 σ H1 vs x F s1 k
theorem chL_ {r : R2} {tb : TE} {d : D} (h : GE c ρ n (.v d :: ds) tb fun iy ρ2 n2 => GO c ρ2 n2 ds r (.v d) iy Q) : GC c ρ n ds (HP.tChL r tb) d Q := fun σ H vs x F s k =>
  h σ H (x :: vs) _ s fun iy ρ2 n2 y H2 q2 s2 => q2 σ H2 vs x y F s2 k
theorem chL2_ {r : R2} {tb : TE} {d : D} (h : GE c ρ n (.v d :: ds) tb fun iy ρ2 n2 => GO c ρ2 n2 ds r (.v d) iy fun iz ρ3 n3 => ∃ b, iz = .v (.bl b) ∧ QB b ρ3 n3) : GC2 c ρ n ds (HP.tChL2 r tb) d QB := fun σ H vs x F s k =>
  h σ H (x :: vs) _ s fun iy ρ2 n2 y H2 q2 s2 => q2 σ H2 vs x y _ s2 fun iz ρ3 n3 z H3 ⟨b, e, q3⟩ s3 => by
    subst e
    obtain rfl := R.eBl s3.one
    exact ⟨b, rfl, k _ _ _ _ q3 s3.pop⟩
theorem chC_ {r : R2} {tb : TE} {t : V → TE} {d : D} (h : GE c ρ n (.v d :: ds) tb fun iy ρ2 n2 => ∃ e, iy = .v e ∧ GO c ρ2 n2 (.v e :: ds) r (.v d) (.v e) fun iz ρ3 n3 => ∃ b, iz = .v (.bl b) ∧ if b = true then GC c ρ3 n3 ds t e Q else Q (.v (.bl false)) ρ3 n3) : GC c ρ n ds (HP.tChC r tb t) d Q := fun σ H vs x F s k =>
  h σ H (x :: vs) _ s fun iy ρ2 n2 y H2 ⟨e, he, q2⟩ s2 => by
    subst he
    refine q2 σ H2 (y :: vs) x y _ s2.dup fun iz ρ3 n3 z H3 ⟨b, eb, q3⟩ s3 => ?_
    subst eb
    obtain rfl := R.eBl s3.one
    refine ⟨b, rfl, ?_⟩
    cases b with
    | true => rw [if_pos rfl] at q3 ⊢; exact q3 σ H3 vs y F s3.pop k
    | false => rw [if_neg Bool.false_ne_true] at q3 ⊢; exact k _ _ _ _ _ q3 (s3.pop.pop.pushS rfl)
theorem chC2_ {r : R2} {tb : TE} {t : V → TT} {d : D} (h : GE c ρ n (.v d :: ds) tb fun iy ρ2 n2 => ∃ e, iy = .v e ∧ GO c ρ2 n2 (.v e :: ds) r (.v d) (.v e) fun iz ρ3 n3 => ∃ b, iz = .v (.bl b) ∧ if b = true then GC2 c ρ3 n3 ds t e QB else QB false ρ3 n3) : GC2 c ρ n ds (HP.tChC2 r tb t) d QB := fun σ H vs x F s k =>
  h σ H (x :: vs) _ s fun iy ρ2 n2 y H2 ⟨e, he, q2⟩ s2 => by
    subst he
    refine q2 σ H2 (y :: vs) x y _ s2.dup fun iz ρ3 n3 z H3 ⟨b, eb, q3⟩ s3 => ?_
    subst eb
    obtain rfl := R.eBl s3.one
    refine ⟨b, rfl, ?_⟩
    cases b with
    | true => rw [if_pos rfl] at q3 ⊢; exact q3 σ H3 vs y F s3.pop k
    | false => rw [if_neg Bool.false_ne_true] at q3 ⊢; exact k _ _ _ _ q3 s3.pop.pop
/-! ### a new thing of nobody's from outside -/
theorem StX.ownNew {m : Nat} {H2 : Hp} {d : D} (s : StX c L B ρ n ds σ H vs) (k : Kept c.g H H2) (h : Hat H2 c.g c.k c.ns m) (hp : H p = none) (r : RO K c.g (fun a => Mo c (L ++ B) a ∨ a = p) H2 p d) : StX c L ([p] ++ B) ρ m (.o d :: ds) σ H2 (.ref p :: vs) := by
  have np : ¬ Mo c (L ++ B) p := s.free hp
  have npl : p ∉ L ++ B := fun z => np (.inr z)
  have hc : c.H0 p = none := by
    cases z : c.H0 p with
    | none => rfl
    | some o =>
      have : p ≠ c.g := fun e => np (.inl (e ▸ s.mg))
      have := s.kp _ _ this z
      rw [hp] at this; cases this
  have mv : Mv (Mo c (L ++ B)) (Mo c (L ++ ([p] ++ B))) H H2 := fun a o na ho => by
    have ng : a ≠ c.g := fun e => na (.inl (e ▸ s.mg))
    refine ⟨fun z => ?_, k a o ng ho⟩
    rcases z with z | z
    · exact na (.inl z)
    · simp only [List.mem_append, List.mem_singleton] at z
      rcases z with z | z | z
      · exact na (.inr (List.mem_append_left _ z))
      · rw [z, hp] at ho; cases ho
      · exact na (.inr (List.mem_append_right _ z))
  have hk : ∀ a ∈ L ++ B, ∀ o, H a = some o → H2 a = some o := fun a ha o ho => k a o (fun z => (s.fr a ha).1 (z ▸ s.mg)) ho
  refine ⟨s.sl.mv mv fun a ha => hk a (List.mem_append_left _ ha), .cons (l := [p]) (.o (r.mv (mv_less fun a ha => ?_) fun _ h => h)) (s.it.mv mv fun a ha => hk a (List.mem_append_right _ ha)), ?_, fun a ha => ?_, s.kp.trans k, h, s.mg, s.ml, s.md⟩
  · rcases ha with ha | ha
    · exact .inl (.inl ha)
    · simp only [List.mem_append, List.mem_singleton] at ha
      rcases ha with z | z | z
      · exact .inl (.inr (List.mem_append_left _ z))
      · exact .inr z
      · exact .inl (.inr (List.mem_append_right _ z))
  · exact (List.perm_middle (a := p) (l₁ := L) (l₂ := B)).nodup_iff.mpr (List.nodup_cons.mpr ⟨npl, s.nd⟩)
  · simp only [List.mem_append, List.mem_singleton] at ha
    rcases ha with z | z | z
    · exact s.fr a (List.mem_append_left _ z)
    · rw [z]; exact ⟨fun q => np (.inl q), hc⟩
    · exact s.fr a (List.mem_append_right _ z)
/-! ### calls by names -/
def permD (idx : List Nat) (ds : List D) : List D := if ds.length = idx.length then idx.map fun i => ds.getD i .non else []
theorem RA.getD {ws : List V} {ds : List D} (h : RA K g M H ws ds) (i : Nat) : R K g M H (ws.getD i .non) (ds.getD i .non) := by
  cases e : ds[i]? with
  | none =>
    have h1 : ds.length ≤ i := List.getElem?_eq_none_iff.mp e
    rw [List.getD_eq_getElem?_getD, List.getD_eq_getElem?_getD, e, List.getElem?_eq_none (by rw [h.len]; exact h1)]
    exact .non
  | some d =>
    obtain ⟨w, hw, r⟩ := h.at e
    rw [List.getD_eq_getElem?_getD, List.getD_eq_getElem?_getD, e, hw]
    exact r
theorem RA.perm {idx : List Nat} {ws : List V} {ds : List D} (h : RA K g M H ws ds) : RA K g M H (HB.perm idx .non [] ws) (permD idx ds) := by
  unfold HB.perm permD
  rw [h.len]
  by_cases e : ds.length = idx.length
  · rw [if_pos ⟨rfl, e⟩, if_pos e]
    clear e
    induction idx with
    | nil => exact .nil
    | cons i t ih => exact .cons (h.getD i) ih
  · rw [if_neg (fun z => e z.2), if_neg e]; exact .nil
theorem callG {sp : SpD} {gV : List V → List V} {gD : List D → List D} (hg : ∀ {g M H ws ds}, RA K g M H ws ds → RA K g M H (gV ws) (gD ds)) {t : TA} (h : GA c ρ n ds t fun its ρ' n' => sp (gD (its.map I.val)) n' (fun it n2 => Q it (frz its ρ') n2) fun _ _ _ => False) : GE c ρ n ds (fun σ H F => t σ H fun vs H1 => lift K sp (gV vs) H1 F E0) Q := fun σ H vs F s k =>
  h σ H vs _ s fun its ρ' n' xs H' q hl s' => by
    obtain ⟨L, B, s2, ra⟩ := items hl s'
    refine ⟨⟨c.g, c.k, c.ns, Mo c (L ++ B), H'⟩, n', _, _, _, ⟨rfl, s2.hat, .inl s2.mg, .inl s2.ml, s2.at, hg ra, fun it m v H2 q2 k2 h2 r2 => ?_, fun C fs n' x H' z => z.elim⟩, q⟩
    cases it with
    | v d => exact k _ _ _ _ _ q2 ⟨L, B, (s2.kept k2 h2).pushR r2⟩
    | b _ _ => exact r2.elim
    | o ys =>
      obtain ⟨p, rfl, hp, np, rr⟩ := r2
      exact k _ _ _ _ _ q2 ⟨L, _, s2.ownNew k2 h2 hp rr⟩
theorem callK_ {sp : SpD} {idx : List Nat} {t : TA} (h : GA c ρ n ds t fun its ρ' n' => sp (permD idx (its.map I.val)) n' (fun it n2 => Q it (frz its ρ') n2) fun _ _ _ => False) : GE c ρ n ds (HB.tCallN0 (lift K sp) (HB.perm idx .non) E0 t) Q := callG (gV := HB.perm idx .non []) (gD := permD idx) (fun r => r.perm) h
/-! ### constructors -/
abbrev SpI := List D → Nat → (List (Str × D) → Nat → Prop) → XD → Prop
def del (H : Hp) (x : Addr) : Hp := fun b => if b = x then none else H b
structure InitOk (c : Wd K) (H : Hp) (x C dx : Addr) (n : Nat) (ws : List V) (ds : List D) (Q : VK) (E : XK) (Qd : List (Str × D) → Nat → Prop) (Ed : XD) : Prop where
  h0 : c.H0 = del H x
  hx : H x = some (.ins C dx [])
  nx : ¬ c.M0 x
  hat : Hat H c.g c.k c.ns n
  mg : c.M0 c.g
  ml : c.M0 c.k
  md : ∀ a, c.M0 a → ∃ o, H a = some o
  ra : RA K c.g (fun a => c.M0 a ∨ a = x) H ws ds
  q : ∀ fs n' H', Qd fs n' → Kept c.g c.H0 H' → Hat H' c.g c.k c.ns n' → RO K c.g (fun a => c.M0 a ∨ a = x) H' x (.ins C fs) → Q .non H'
def liftI (K : PySem.W.Frag) (C : Addr) (sp : SpI) : Sp := fun vs H Q E => ∃ (c : Wd K) (n : Nat) (x dx : Addr) (ws : List V) (ds : List D) (Qd : List (Str × D) → Nat → Prop) (Ed : XD), vs = .ref x :: ws ∧ InitOk c H x C dx n ws ds Q E Qd Ed ∧ sp ds n Qd Ed
theorem make_ {C : Addr} {sp : SpI} {t : TA} (h : GA c ρ n ds t fun its ρ' n' => sp (its.map I.val) n' (fun fs n2 => Q (.o (.ins C fs)) (frz its ρ') n2) fun _ _ _ => False) : GE c ρ n ds (StX.tMakeR C (liftI K C sp) E0 t) Q := fun σ H vs F s k =>
  h σ H vs _ s fun its ρ' n' xs H' q hl s' => by
    intro x dx hx hdx hne
    obtain ⟨L, B, s2, ra⟩ := items hl s'
    have nmx : ¬ Mo c (L ++ B) x := s2.free hx
    have nmd : ¬ Mo c (L ++ B) dx := s2.free hdx
    have sm : Same H' (upd (upd H' dx (.own x)) x (.ins C dx [])) := fun b o hb => by
      rw [upd_ne (ne_of_none hb hx), upd_ne (ne_of_none hb hdx)]; exact hb
    have ra2 : RA K c.g (fun a => Mo c (L ++ B) a ∨ a = x) (upd (upd H' dx (.own x)) x (.ins C dx [])) xs (its.map I.val) := ra.mv fun a o na ho => ⟨fun z => z.elim na fun e => (by rw [e, hx] at ho; cases ho), sm a o ho⟩
    have fin : ∀ fs m H2, Q (.o (.ins C fs)) (frz its ρ') m → Kept c.g (del (upd (upd H' dx (.own x)) x (.ins C dx [])) x) H2 → Hat H2 c.g c.k c.ns m → RO K c.g (fun a => Mo c (L ++ B) a ∨ a = x) H2 x (.ins C fs) → F (.ref x) H2 := fun fs m H2 q2 k2 h2 r2 => by
      refine k _ _ _ _ _ q2 ⟨L, _, s2.ownNew (fun b o nb hb => k2 b o nb ?_) h2 hx r2⟩
      have : b ≠ x := ne_of_none hb hx
      show (if b = x then none else _) = _
      rw [if_neg this]
      exact sm b o hb
    have md : ∀ a, Mo c (L ++ B) a → ∃ o, (upd (upd H' dx (.own x)) x (.ins C dx [])) a = some o := fun a ha => by
      obtain ⟨o, ho⟩ := s2.at a ha
      exact ⟨o, sm a o ho⟩
    exact ⟨⟨c.g, c.k, c.ns, Mo c (L ++ B), del (upd (upd H' dx (.own x)) x (.ins C dx [])) x⟩, n', x, dx, xs, _, _, _, rfl, ⟨rfl, upd_same, nmx, s2.hat.same sm, .inl s2.mg, .inl s2.ml, md, ra2, fun fs m H2 q2 k2 h2 r2 => ⟨rfl, fin fs m H2 q2 k2 h2 r2⟩⟩, q⟩
/-- into the body of an __init__ -/
theorem enterI {H : Hp} {x C dx : Addr} {ws : List V} {es : List D} {Q : VK} {E : XK} {Qd : List (Str × D) → Nat → Prop} {Ed : XD} {σ : L2.St} {R : L2.St → Hp → Prop} (k : InitOk c H x C dx n ws es Q E Qd Ed) {m : Nat} (eσ : σ = (V.ref x :: ws).map some ++ List.replicate m none)
    (h : ∀ L, StX c L [] (.me x (.ins C []) :: (es.map S.v ++ List.replicate m S.un)) n [] σ H [] → R σ H) : R σ H := by
  refine h [x] ⟨?_, .nil, ?_, fun a ha => ?_, ?_, k.hat, k.mg, k.ml, fun a ha => ?_⟩
  · rw [eσ]
    have mo : Mo c ([x] ++ []) = fun a => c.M0 a ∨ a = x := by
      funext a
      refine propext ⟨fun z => z.elim .inl fun z => .inr (by simpa using z), fun z => z.elim .inl fun z => .inr (by simpa using z)⟩
    rw [mo]
    refine SRs.cons (l := [x]) (.me ⟨dx, _, k.hx, .nil⟩) ?_
    have ra := k.ra
    clear k h eσ
    have un : ∀ m : Nat, SRs K c.g (fun a => c.M0 a ∨ a = x) H (List.replicate m S.un) [] (List.replicate m none) := fun m => by
      induction m with
      | zero => exact .nil
      | succ m ih => exact .cons (l := []) (.un _) ih
    induction es generalizing ws with
    | nil => cases ra; exact un m
    | cons d ds ih => cases ra with | cons a b => exact .cons (l := []) (.v a) (ih b)
  · exact List.nodup_cons.mpr ⟨(fun z => by cases z), List.nodup_nil⟩
  · have : a = x := by simpa using ha
    subst this
    refine ⟨k.nx, ?_⟩
    rw [k.h0]; unfold del; rw [if_pos rfl]
  · rw [k.h0]
    intro b o nb hb
    unfold del at hb
    split at hb
    · cases hb
    · exact hb
  · obtain ⟨o, ho⟩ := k.md a ha
    rw [k.h0]
    refine ⟨o, ?_⟩
    unfold del
    rw [if_neg (fun e : a = x => k.nx (e ▸ ha))]
    exact ho
/-- out of it -/
theorem leaveI {H0 H : Hp} {x C dx : Addr} {ws : List V} {es : List D} {Q : VK} {E : XK} {Qd : List (Str × D) → Nat → Prop} {Ed : XD} {fs : List (Str × D)} (k : InitOk c H0 x C dx n ws es Q E Qd Ed) {m : Nat} (s : St c ρ m [] σ H vs) (h0 : ρ[0]? = some (.me x (.ins C fs))) (q : Qd fs m) : Q .non H := by
  obtain ⟨L, B, s⟩ := s
  obtain ⟨L1, l, L2, y, e1, e2, e3, _⟩ := s.sl.at h0
  cases e3 with
  | me r =>
    refine k.q fs m H q s.kp s.hat (r.mv (fun b o nb ho => ⟨fun z => nb (z.elim .inl fun e => .inr ?_), ho⟩) fun _ h => h)
    rw [e, e1]; simp
def SM (K : PySem.W.Frag) (ds : List I) (f : Str) (it io : I) (ρ2 : List S) (n2 : Nat) (nx : QS) : Prop := ∃ i d0 x C fs, io = .b i d0 ∧ clean ds = true ∧ (frz1 ρ2 it)[i]? = some (.me x (.ins C fs)) ∧ Cls K C ∧ NoAttr K C f ∧ Nat.ble fs.length 900 = true ∧ nx ((frz1 ρ2 it).set i (.me x (.ins C (putD f it.val fs)))) n2
theorem setM_ {ta tv : TE} {f : Str} {nx bk ct : QS} {rt : I → Nat → Prop} (h : GE c ρ n ds tv fun it ρ1 n1 => GE c ρ1 n1 (it :: ds) ta fun io ρ2 n2 => SM K ds f it io ρ2 n2 nx) : GS c ρ n ds (sFld K ta tv f) ⟨nx, rt, bk, ct⟩ := fun σ H vs E s k =>
  h σ H vs _ s fun it ρ1 n1 y H1 q1 s1 => q1 σ H1 (y :: vs) _ s1 fun io ρ2 n2 x H2 ⟨i, d0, x0, C, fs, e, hc, hi, hC, hn, hl, q⟩ s2 => by
    subst e
    have s3 := St.frz1 (St.rot' (is := [.b i d0]) (ws := [x]) rfl s2)
    obtain ⟨L, B, s3⟩ := s3
    have hv := s3.val
    have hs : σ[i]? = some (some x) := slotOf s3
    obtain ⟨B', lx, ly, s4, mv, _, _⟩ := s3.it2
    obtain ⟨e1, ⟨dx, fv, ha, rf⟩, w⟩ := s4.wrM hc hi
    rw [hs] at e1; cases e1
    have := Nat.le_of_ble_eq_true hl
    have hlen := rf.len
    exact ⟨_, C, dx, fv, rfl, ha, hC, hn, by omega, k.nx _ _ _ _ q ⟨L, B', w fun m => ⟨dx, _, upd_same, (rf.put (hv.mv mv)).mv m⟩⟩⟩
/-- the base's __init__ first -/
theorem super_ {H : Hp} {x C : Addr} {ta : TA} {tr : TS} {spB : SpI} {D : Es} {E : Ends} (hds : ds = []) (h : GA c ρ n [] ta fun its ρ' n' => (frz its ρ')[0]? = some (.me x (.ins C [])) ∧ spB (its.map I.val) n' (fun fs n2 => GS c ((frz its ρ').set 0 (.me x (.ins C fs))) n2 [] tr D) fun _ _ _ => False)
    (s : St c ρ n [] σ H []) (k : EOk c [] [] D E) : ta σ H fun us H1 => liftI K C spB (.ref x :: us) H1 (fun _ H2 => tr E σ H2) E0 := by
  refine h σ H [] _ s fun its ρ' n' xs H1 ⟨h0, q⟩ hl s1 => ?_
  rw [List.append_nil, List.append_nil] at s1
  have s1' : St c ρ' n' (its ++ []) σ H1 (xs ++ []) := by rw [List.append_nil, List.append_nil]; exact s1
  obtain ⟨L, B, s2, ra⟩ := items hl s1'
  generalize frz its ρ' = ρ2 at h0 q s2
  have hl0 : 0 < ρ2.length := (List.getElem?_eq_some_iff.mp h0).1
  obtain ⟨L1, l, L2, y, e1, e2, e3, e4⟩ := s2.sl.atM h0
  cases e3 with
  | @me a _ r =>
    subst e1
    obtain ⟨dx, fv, hx, rf⟩ := r
    cases rf
    -- what else may change outside
    have nd : x ∉ (L1 ++ L2) ++ B := by
      have pm : ((L1 ++ ([x] ++ L2)) ++ B).Perm (x :: ((L1 ++ L2) ++ B)) := by
        rw [show L1 ++ ([x] ++ L2) = L1 ++ x :: L2 from rfl, List.append_assoc, List.append_assoc]
        exact List.perm_middle
      exact (List.nodup_cons.mp (pm.nodup_iff.mp s2.nd)).1
    have hm : x ∈ (L1 ++ ([x] ++ L2)) ++ B := by simp
    have nx : ¬ Mo c ((L1 ++ L2) ++ B) x := fun z => z.elim (s2.fr x hm).1 nd
    have sub : ∀ b ∈ (L1 ++ L2) ++ B, b ∈ (L1 ++ ([x] ++ L2)) ++ B := fun b hb => by
      simp only [List.mem_append, List.mem_singleton] at hb ⊢
      rcases hb with (z | z) | z
      · exact .inl (.inl z)
      · exact .inl (.inr (.inr z))
      · exact .inr z
    have mo : ∀ a, Mo c ((L1 ++ L2) ++ B) a ∨ a = x → Mo c ((L1 ++ ([x] ++ L2)) ++ B) a := fun a z => z.elim (mo_less sub a) fun e => .inr (by rw [e]; exact hm)
    have om : ∀ a, Mo c ((L1 ++ ([x] ++ L2)) ++ B) a → Mo c ((L1 ++ L2) ++ B) a ∨ a = x := fun a z => by
      rcases z with z | z
      · exact .inl (.inl z)
      · simp only [List.mem_append, List.mem_singleton] at z
        rcases z with (z | z | z) | z
        · exact .inl (.inr (by simp [z]))
        · exact .inr z
        · exact .inl (.inr (by simp [z]))
        · exact .inl (.inr (by simp [z]))
    refine ⟨⟨c.g, c.k, c.ns, Mo c ((L1 ++ L2) ++ B), del H1 x⟩, n', x, dx, xs, _, _, _, rfl, ⟨rfl, hx, nx, s2.hat, .inl s2.mg, .inl s2.ml, fun a ha => s2.at a (mo_less sub a ha), ra.mv (mv_less mo), fun fs m H2 q2 k2 h2 r2 => ?_⟩, q⟩
    refine q2 σ H2 [] E ?_ k
    have kk : ∀ b o, b ≠ x → b ≠ c.g → H1 b = some o → H2 b = some o := fun b o nb ng hb => k2 b o ng (by show (if b = x then none else H1 b) = some o; rw [if_neg nb]; exact hb)
    have hag : x ≠ c.g := fun e => (s2.fr x hm).1 (e ▸ s2.mg)
    have mv : Mv (Mo c ((L1 ++ ([x] ++ L2)) ++ B)) (Mo c ((L1 ++ ([x] ++ L2)) ++ B)) H1 H2 := fun b o nb hb => ⟨nb, kk b o (fun e => nb (.inr (e ▸ hm))) (fun e => nb (.inl (e ▸ s2.mg))) hb⟩
    have hk : ∀ b ∈ (L1 ++ L2) ++ B, ∀ o, H1 b = some o → H2 b = some o := fun b hb o ho => kk b o (fun e => nd (e ▸ hb)) (fun e => (s2.fr b (sub b hb)).1 (e ▸ s2.mg)) ho
    have sl1 := e4 (l' := [x]) mv (fun b hb => hk b (List.mem_append_left _ hb)) (SR.me (r2.mv (mv_less om) fun _ h => h))
    rw [show σ.set 0 (some (V.ref x)) = σ by
      obtain ⟨h1, h2⟩ := List.getElem?_eq_some_iff.mp e2
      rw [← h2, List.set_getElem_self]] at sl1
    refine ⟨L1 ++ ([x] ++ L2), B, sl1, ?_, s2.nd, s2.fr, ?_, h2, s2.mg, s2.ml, s2.md⟩
    · have := (s2.it.mv mv fun b hb => hk b (List.mem_append_right _ hb))
      exact this.clean rfl
    · intro b o nb hb
      have : b ≠ x := fun e => by have := (s2.fr x hm).2; rw [← e, hb] at this; cases this
      exact kk b o this nb (s2.kp b o nb hb)
/-! ### == and != by an own __eq__, truth by an own __bool__ -/
theorem eqO_ {neg : Bool} {f : Addr} {sp : SpD} {ix iy : I} {C E : Addr} {fs gs : List (Str × D)} (ex : ix.val = .ins C fs) (ey : iy.val = .ins E gs) (ec : HP.EqCls K C E f) (h : sp [ix.val, iy.val] n (fun it n2 => ∃ r, it = .v (.bl r) ∧ Q (.v (.bl (if neg then !r else r))) (frz [iy, ix] ρ) n2) fun _ _ _ => False) : GO c ρ n ds (HP.rEqO neg K f (lift K sp)) ix iy Q := fun σ H vs x y F s k => by
  obtain ⟨L, B, s2, ra⟩ := items (is := [iy, ix]) (ws := [y, x]) rfl s
  cases ra with
  | cons ry rr =>
  cases rr with
  | cons rx r0 =>
  have rx' := rx
  have ry' := ry
  rw [ex] at rx'; rw [ey] at ry'
  cases rx' with
  | @ins a _ dx fv _ na ha rf =>
  cases ry' with
  | @ins b _ dy gv _ nb hb rg =>
  refine ⟨a, b, C, dx, fv, E, dy, gv, rfl, rfl, ha, hb, ec, ?_⟩
  refine ⟨⟨c.g, c.k, c.ns, Mo c (L ++ B), H⟩, n, _, _, _, ⟨rfl, s2.hat, .inl s2.mg, .inl s2.ml, s2.at, .cons rx (.cons ry .nil), fun it m v H2 q2 k2 h2 r2 => ?_, fun C fs n' x H' z => z.elim⟩, h⟩
  obtain ⟨r, e, q⟩ := q2
  subst e
  cases (show R K c.g _ H2 v (.bl r) from r2)
  exact ⟨r, rfl, k _ _ _ _ _ q ⟨L, B, (s2.kept k2 h2).pushR (.bl _)⟩⟩
/-- a test by a value's own truth -/
theorem tru_ {ta : TE} {r : V → Hp → (Bool → Hp → Prop) → Prop} (h : GE c ρ n ds ta fun it ρ' n' => ∃ C fs b, it.val = .ins C fs ∧ (∀ (a dx : Addr) (fv : List (Str × V)) (H : Hp) (F : Bool → Hp → Prop), H a = some (.ins C dx fv) → F b H → r (.ref a) H F) ∧ QB b ρ' n') : GT c ρ n ds (fun σ H Q => ta σ H fun x H' => r x H' Q) QB := fun σ H vs F s k =>
  h σ H vs _ s fun it ρ' n' x H' ⟨C, fs, b, e, hr, q⟩ ⟨L, B, s⟩ => by
    obtain ⟨B', lx, s2, mv, hx⟩ := s.it1
    obtain ⟨a, dx, fv, rfl, ha, rf⟩ := hx.ins s.sl e
    exact hr a dx fv H' F ha (k _ _ _ _ q ⟨L, B', s2⟩)
def truD : D → Option Bool
  | .non => some false
  | .bl b => some b
  | .int i => some (i != 0)
  | .lst xs => some (!xs.isEmpty)
  | .tup xs => some (!xs.isEmpty)
  | _ => none
theorem RA.emp {ws : List V} {xs : List D} (h : RA K g M H ws xs) : (!xs.isEmpty) = !ws.isEmpty := by cases h <;> rfl
theorem R.tru {b : Bool} {d : D} (h : R K g M H v d) (e : truD d = some b) : TruV K v H b := by
  cases h with
  | non => cases e; rfl
  | bl b => cases e; rfl
  | int i => cases e; rfl
  | lst n h1 h2 => cases e; exact .inl ⟨_, SqL.of h1, h2.emp⟩
  | tup h1 h2 => cases e; exact .inr (.inl ⟨_, h1.sqt, h2.emp⟩)
  | _ => cases e
theorem trv_ {ta : TE} (h : GE c ρ n ds ta fun it ρ' n' => ∃ b, truD it.val = some b ∧ QB b ρ' n') : GT c ρ n ds (fun σ H Q => ta σ H fun x H' => ∃ k, TruV K x H' k ∧ Q k H') QB := fun σ H vs F s k =>
  h σ H vs _ s fun it ρ' n' x H' ⟨b, e, q⟩ ⟨L, B, s⟩ => by
    obtain ⟨B', lx, s2, mv, hx⟩ := s.it1
    have fin := k _ _ _ _ q ⟨L, B', s2⟩
    refine ⟨b, ?_, fin⟩
    rcases hx.cases s.sl with r | ⟨a, rfl, r⟩
    · exact r.tru e
    · generalize it.val = d at r e
      cases d <;> first | exact r.elim | (cases e; done) | skip
      · cases e; obtain ⟨_, h1, h2⟩ := r; exact .inl ⟨_, SqL.of h1, h2.emp⟩
end
end HD
/-! what the laws share: draws, fixed values, papers -/
namespace HD
open PySem PySem.Spec PyProof.Rows L2 HX
/-! ### steps that the tactic words use -/
section
variable {K : PySem.W.Frag} {c : Wd K} {ρ : List S} {n : Nat} {ds : List I} {Q : QI} {QG : QS}
theorem varV_ {i : Nat} {d : D} (e : ρ[i]? = some (.v d)) (h : Q (.v d) ρ n) : GE c ρ n ds (tVar i) Q := varG_ (by rw [e]; exact h)
theorem varO_ {i : Nat} {d : D} (e : ρ[i]? = some (.ow d)) (h : Q (.b i d) ρ n) : GE c ρ n ds (tVar i) Q := varG_ (by rw [e]; exact h)
theorem varM_ {i : Nat} {a : Addr} {d : D} (e : ρ[i]? = some (.me a d)) (h : Q (.b i d) ρ n) : GE c ρ n ds (tVar i) Q := varG_ (by rw [e]; exact h)
theorem ble_ {a b : Nat} {P : Prop} (e : Nat.ble a b = true) (h : P) : Nat.ble a b = true ∧ P := ⟨e, h⟩
theorem exbl_ {b : Bool} {P : Bool → Prop} (h : P b) : ∃ b', I.v (.bl b) = I.v (.bl b') ∧ P b' := ⟨b, rfl, h⟩
theorem exint_ {b : Int} {P : Int → Prop} (h : P b) : ∃ b', I.v (.int b) = I.v (.int b') ∧ P b' := ⟨b, rfl, h⟩
theorem exv_ {d : D} {P : D → Prop} (h : P d) : ∃ e, I.v d = I.v e ∧ P e := ⟨d, rfl, h⟩
theorem exlst_ {it : I} {xs : List D} {P : List D → Prop} (e : it.val = .lst xs) (h : P xs) : ∃ xs, it.val = .lst xs ∧ P xs := ⟨xs, e, h⟩
theorem extup_ {xs : List D} {P : List D → Prop} (h : P xs) : ∃ ys, I.v (.tup xs) = I.v (.tup ys) ∧ P ys := ⟨xs, rfl, h⟩
theorem ex1int_ {i : Int} {P : Int → Prop} (h : P i) : ∃ j, [I.v (.int i)] = [I.v (.int j)] ∧ P j := ⟨i, rfl, h⟩
theorem ex2int_ {i j : Int} {P : Int → Int → Prop} (h : P i j) : ∃ a b, [I.v (.int i), I.v (.int j)] = [I.v (.int a), I.v (.int b)] ∧ P a b := ⟨i, j, rfl, h⟩
theorem ex2_ {x y : I} {P : I → I → Prop} (h : P x y) : ∃ a b, [x, y] = [a, b] ∧ P a b := ⟨x, y, rfl, h⟩
theorem ex3_ {x y z : I} {P : I → I → I → Prop} (h : P x y z) : ∃ a b d, [x, y, z] = [a, b, d] ∧ P a b d := ⟨x, y, z, rfl, h⟩
theorem exty_ {T : String} {it : I} {P : Prop} (e : tyD T it.val) (h : P) : tyD T it.val ∧ P := ⟨e, h⟩
theorem true_ {P : Prop} (h : P) : (true = true) ∧ P := ⟨rfl, h⟩
theorem gunlE_ {m : Nat} {gs : TGs} {it : I} {xs : List D} (e : it.val = .lst xs) (hl : xs.length = m) (h : GGs c ρ n ds gs (xs.map I.v) QG) : GG c ρ n ds (gUnl K m gs) it QG := gunl_ e hl h
/-! ### comprehensions that change nothing else -/
theorem CpD.mapD {own : List Nat} {g : TG} {tt : TT} {te : TE} {Q : List D → QS} {xs : List D} (f : D → D) (hl : xs.length ≤ 100000)
    (hs : ∀ x ∈ xs, ∀ ys, GW c ρ n (.o (.lst ys) :: ds) own g (.v x) fun ρ1 n1 => GT c ρ1 n1 (.o (.lst ys) :: ds) tt fun b ρ2 n2 => b = true ∧ GE c ρ2 n2 (.o (.lst ys) :: ds) te fun it ρ3 n3 => it.val = f x ∧ HD.unset own (HD.frz1 ρ3 it) = ρ ∧ n3 = n)
    (hd : Q (xs.map f) ρ n) : CpD c ds own g tt te Q xs [] ρ n := by
  refine CpD.inv (fun i ys ρ' n' => ys = (xs.take i).map f ∧ ρ' = ρ ∧ n' = n) ⟨rfl, rfl, rfl⟩ (fun i x ys ρ' n' hx hi p => ?_) fun ys ρ' n' p => ?_
  · obtain ⟨rfl, rfl, rfl⟩ := p
    refine (hs x (List.mem_of_getElem? hx) _).mono fun ρ1 n1 q => q.mono fun b ρ2 n2 q2 => ?_
    obtain ⟨rfl, q2⟩ := q2
    rw [if_pos rfl]
    refine q2.mono fun it ρ3 n3 q3 => ⟨Nat.ble_eq_true_of_le (by rw [List.length_map, List.length_take]; omega), ?_, q3.2.1, q3.2.2⟩
    rw [q3.1, List.take_add_one, hx, List.map_append]; rfl
  · obtain ⟨rfl, rfl, rfl⟩ := p
    rw [List.take_length]; exact hd
theorem CpD.filD {own : List Nat} {g : TG} {tt : TT} {te : TE} {Q : List D → QS} {xs : List D} (p : D → Bool) (f : D → D) (hl : xs.length ≤ 100000)
    (hs : ∀ x ∈ xs, ∀ ys, GW c ρ n (.o (.lst ys) :: ds) own g (.v x) fun ρ1 n1 => GT c ρ1 n1 (.o (.lst ys) :: ds) tt fun b ρ2 n2 => b = p x ∧ if p x = true then GE c ρ2 n2 (.o (.lst ys) :: ds) te fun it ρ3 n3 => it.val = f x ∧ HD.unset own (HD.frz1 ρ3 it) = ρ ∧ n3 = n else HD.unset own ρ2 = ρ ∧ n2 = n)
    (hd : Q ((xs.filter p).map f) ρ n) : CpD c ds own g tt te Q xs [] ρ n := by
  refine CpD.inv (fun i ys ρ' n' => ys = ((xs.take i).filter p).map f ∧ ρ' = ρ ∧ n' = n) ⟨rfl, rfl, rfl⟩ (fun i x ys ρ' n' hx hi q => ?_) fun ys ρ' n' q => ?_
  · obtain ⟨rfl, rfl, rfl⟩ := q
    refine (hs x (List.mem_of_getElem? hx) _).mono fun ρ1 n1 q => q.mono fun b ρ2 n2 q2 => ?_
    obtain ⟨rfl, q2⟩ := q2
    cases hp : p x with
    | true =>
      rw [hp, if_pos rfl] at q2
      rw [if_pos rfl]
      refine q2.mono fun it ρ3 n3 q3 => ⟨Nat.ble_eq_true_of_le ?_, ?_, q3.2.1, q3.2.2⟩
      · rw [List.length_map]
        have h1 := List.length_filter_le p (xs.take i)
        rw [List.length_take] at h1
        omega
      · rw [q3.1, List.take_add_one, hx]
        simp [hp]
    | false =>
      rw [hp, if_neg Bool.false_ne_true] at q2
      rw [if_neg Bool.false_ne_true]
      refine ⟨?_, q2.1, q2.2⟩
      rw [List.take_add_one, hx]
      simp [hp]
  · obtain ⟨rfl, rfl, rfl⟩ := q
    rw [List.take_length] at *; exact hd
/-- over a list or a tuple -/
theorem iseqL_ {te : TE} {Q : List I → List D → QS} (h : GI c ρ n ds (iList K te) Q) : GI c ρ n ds (HC.iSeq K te) Q := fun σ H vs F s k => .inl (h σ H vs F s k)
theorem iseqT_ {te : TE} {Q : List I → List D → QS} (h : GI c ρ n ds (iTup K te) Q) : GI c ρ n ds (HC.iSeq K te) Q := fun σ H vs F s k => .inr (h σ H vs F s k)
end
/-! ### isinstance with a tuple of classes, laid or written -/
def rIsiTU (K : PySem.W.Frag) : List V → Hp → VK → Prop := fun xs H Q => rIsiT K xs H Q ∨ rIsiK K xs H Q
theorem call_isiTU {X : Cx} {K : PySem.W.Frag} (hK : X.K = K := by rfl) : CallR X (.builtin "isinstance") (rIsiTU K) := by cases hK; exact CallR.or call_isiT call_isiK
def clsD : List D → Option (List Value)
  | [] => some []
  | .ty n :: r => (clsD r).map (Value.type n :: ·)
  | .glo a :: r => (clsD r).map (Value.ref a :: ·)
  | _ => none
section
variable {K : PySem.W.Frag} {c : Wd K} {ρ : List S} {n : Nat} {ds : List I} {Q : QI} {g : Addr} {M : Addr → Prop} {H : Hp}
theorem RA.cls : ∀ {ws : List V} {cs : List D} {us : List Value}, RA K g M H ws cs → clsD cs = some us → Paired ClsV ws us
  | _, [], _, h, e => by cases h; cases e; exact .nil
  | _, d :: cs, us, .cons a b, e => by
    cases d with
    | ty n =>
      cases a
      cases z : clsD cs with
      | none => rw [clsD, z] at e; cases e
      | some vs => rw [clsD, z] at e; cases e; exact .cons (.ty n) (RA.cls b z)
    | glo x =>
      cases a
      cases z : clsD cs with
      | none => rw [clsD, z] at e; cases e
      | some vs => rw [clsD, z] at e; cases e; exact .cons (.own x) (RA.cls b z)
    | _ => cases e
theorem isiU {x : V} {t : Value} {b : Bool} {tp : V} {cs : List D} {us : List Value} {F : VK} (hx : TyX K H x t) (hy : R K g M H tp (.tup cs)) (e : clsD cs = some us) (hk : PySem.W.kitAny K t us = some b) (q : F (.bl b) H) : rIsiTU K [x, tp] H F := by
  cases hy with
  | @tup a ws _ ha ra =>
    have pc := ra.cls e
    rcases ha with ha | ha
    · exact .inl ⟨x, a, ws, t, us, b, rfl, ha.2, pc, hx, hk, q⟩
    · rcases ha with (ha | ⟨_, ha⟩) | ⟨⟨cl, dd, dt, sl⟩, its, m, h1, h2, h3, _, h5⟩
      · cases ha
      · cases ha
      · have hu := ClsV.all pc h5
        cases h2
        cases h3
        refine .inr ⟨x, a, dd, us, m, sl, t, b, rfl, ?_, hx, hk, q⟩
        rw [h1, ← hu]
theorem isiTB_ {it : I} {t : String} {b : Bool} {cs : List D} {us : List Value} (e : it.val.tn = some t) (ec : clsD cs = some us) (hk : PySem.W.kitAny K (.type t) us = some b) (h : Q (.v (.bl b)) ρ n) : GB c ρ n ds (rIsiTU K) [it, .v (.tup cs)] Q := fun σ H vs xs F hl ⟨L, B, s⟩ k => by
  match xs, hl with
  | [x, y], _ =>
  obtain ⟨L, B, s1⟩ := (St.rot (is := [.v (.tup cs)]) (ws := [y]) rfl ⟨L, B, s⟩ : St c ρ n (.v (.tup cs) :: it :: ds) σ H (y :: x :: vs))
  obtain ⟨B', lx, ly, s2, mv, hx, hy⟩ := s1.it2
  exact isiU (hx.tn s1.sl e) hy.r ec hk (k _ _ _ _ _ h ⟨L, B', s2.pushR (.bl _)⟩)
theorem isiTO_ {it : I} {C CP : Addr} {nm : Str} {fs : List (Str × D)} {b : Bool} {cs : List D} {us : List Value} (e : it.val = .ins C fs) (pc : HC.PC K CP C nm) (ec : clsD cs = some us) (hk : PySem.W.kitAny K (.ref C) us = some b) (h : Q (.v (.bl b)) ρ n) : GB c ρ n ds (rIsiTU K) [it, .v (.tup cs)] Q := fun σ H vs xs F hl ⟨L, B, s⟩ k => by
  match xs, hl with
  | [x, y], _ =>
  obtain ⟨L, B, s1⟩ := (St.rot (is := [.v (.tup cs)]) (ws := [y]) rfl ⟨L, B, s⟩ : St c ρ n (.v (.tup cs) :: it :: ds) σ H (y :: x :: vs))
  obtain ⟨B', lx, ly, s2, mv, hx, hy⟩ := s1.it2
  obtain ⟨a, dx, fv, rfl, ha, _⟩ := hx.ins s1.sl e
  exact isiU (pc.ty ha) hy.r ec hk (k _ _ _ _ _ h ⟨L, B', s2.pushR (.bl _)⟩)
end
/-! ### fixed values -/
mutual
def D.fix : D → D
  | .lst xs => .tup (D.fixs xs)
  | .tup xs => .tup (D.fixs xs)
  | d => d
def D.fixs : List D → List D
  | [] => []
  | x :: xs => D.fix x :: D.fixs xs
end
theorem D.fixs_map : ∀ xs : List D, D.fixs xs = xs.map D.fix
  | [] => rfl
  | x :: xs => by rw [D.fixs, List.map_cons, D.fixs_map xs]
/-- nested at most m deep, none too long, leaves of built-in types -/
def okF : Nat → D → Bool
  | 0, .lst _ => false
  | 0, .tup _ => false
  | m + 1, .lst xs => Nat.ble xs.length 100000 && xs.all (okF m)
  | m + 1, .tup xs => Nat.ble xs.length 100000 && xs.all (okF m)
  | _, d => d.tn.isSome
def isSq : D → Bool
  | .lst _ => true
  | .tup _ => true
  | _ => false
theorem okF_tn {m : Nat} {d : D} (h : okF m d = true) : ∃ t, d.tn = some t := by
  cases m <;> cases d <;> first | exact ⟨_, rfl⟩ | (simp [okF, D.tn] at h)
def spd_fixed (m : Nat) (ds : List D) (n : Nat) (Q : I → Nat → Prop) (_ : XD) : Prop := ∃ d, ds = [d] ∧ okF m d = true ∧ Q (.v d.fix) n
def spd_fixedB : Nat → SpD
  | 0 => fun _ _ _ _ => False
  | m + 1 => spd_fixed m
theorem lift_false {K : PySem.W.Frag} : lift K (spd_fixedB 0) = fun _ _ _ _ => False := by
  funext vs H Q E
  exact propext ⟨fun ⟨_, _, _, _, _, _, h⟩ => h, False.elim⟩
theorem sq_kit {K : PySem.W.Frag} {d : D} {t : String} (e : d.tn = some t) : PySem.W.kitAny K (.type t) [.type "list", .type "tuple"] = some (isSq d) := by
  cases d <;> first | (cases e; done) | skip
  · cases e; exact HC.kitAny_two (a := false) (b := false) (kit_ty (by decide +kernel)) (kit_ty (by decide +kernel))
  · cases e; exact HC.kitAny_two (a := false) (b := false) (kit_ty (by decide +kernel)) (kit_ty (by decide +kernel))
  · cases e; exact HC.kitAny_two (a := false) (b := false) (kit_ty (by decide +kernel)) (kit_ty (by decide +kernel))
  · cases e; exact HC.kitAny_two (a := false) (b := false) (kit_ty (by decide +kernel)) (kit_ty (by decide +kernel))
  · cases e; exact HC.kitAny_two (a := false) (b := true) (kit_ty (by decide +kernel)) (kit_ty (by decide +kernel))
  · cases e; exact HC.kitAny_two (a := true) (b := false) (kit_ty (by decide +kernel)) (kit_ty (by decide +kernel))
/-! ### the reel -/
def spV_hat (K : PySem.W.Frag) : Sp := fun vs H Q _ => ∃ (a : Addr) (ns : List Int), vs = [.ref a] ∧ SqL K H a (ns.map V.int) ∧ ns.length ≤ 63 ∧ ∀ p c ms H', Same H H' → H p = none → Hat H' p c ms 0 → Q (.ref p) H'
def spV_lot : Sp := fun vs H Q _ => ∃ (a : Addr) (m : Int) (c : Addr) (ns : List Int) (n : Nat), vs = [.ref a, .int m] ∧ Hat H a c ns n ∧ n ≤ 100000 ∧ 0 < m ∧ m < 1073741824 ∧ ∀ d H', 0 ≤ d → d < m → Kept a H H' → Hat H' a c ns (n + 1) → Q (.int d) H'
def spd_lot (ds : List D) (n : Nat) (Q : I → Nat → Prop) (_ : XD) : Prop := ∃ m : Int, ds = [.hat, .int m] ∧ n ≤ 100000 ∧ (0 < m ∧ m < 1073741824) ∧ ∀ d, 0 ≤ d → d < m → Q (.v (.int d)) (n + 1)
theorem lot_bridge {K : PySem.W.Frag} : ∀ vs H Q E, lift K spd_lot vs H Q E → spV_lot vs H Q E := by
  rintro vs H Q E ⟨c, n, ds, Qd, Ed, k, m, rfl, hn, hm, q⟩
  have ra := k.ra
  cases ra with
  | cons a b =>
  cases b with
  | cons b d =>
  cases a; cases b; cases d
  exact ⟨c.g, m, c.k, c.ns, n, rfl, k.hat, hn, hm.1, hm.2, fun d H' h0 h1 kp ht => k.q _ _ _ _ (q d h0 h1) kp ht (.int d)⟩
theorem use_lot {m : Int} {n : Nat} {Q : I → Nat → Prop} {E : XD} (hn : n ≤ 100000) (hm : 0 < m ∧ m < 1073741824) (q : ∀ d, 0 ≤ d → d < m → Q (.v (.int d)) (n + 1)) : spd_lot [.hat, .int m] n Q E := ⟨m, rfl, hn, hm, q⟩
def spd_one (ds : List D) (n : Nat) (Q : I → Nat → Prop) (_ : XD) : Prop := ∃ d xs, ds = [.hat, d] ∧ d.seq = some xs ∧ n ≤ 100000 ∧ (0 < xs.length ∧ xs.length ≤ 1000) ∧ ∀ v ∈ xs, Q (.v v) (n + 1)
theorem use_one {d : D} {xs : List D} {n : Nat} {Q : I → Nat → Prop} {E : XD} (e : d.seq = some xs) (hn : n ≤ 100000) (hl : 0 < xs.length ∧ xs.length ≤ 1000) (q : ∀ v ∈ xs, Q (.v v) (n + 1)) : spd_one [.hat, d] n Q E := ⟨d, xs, rfl, e, hn, hl, q⟩
/-- behind the law's first statement -/
theorem begin {K : PySem.W.Frag} {t : TS} {E : Ends} {D : Es} {x0 : Option V} {p k : Addr} {ms : List Int} {H : Hp} {rest : L2.St} {m : Nat} (hh : Hat H p k ms 0) (hl : rest.length = m) (h : GS (K := K) ⟨p, k, ms, fun a => a = p ∨ a = k, H⟩ (.un :: .v .hat :: List.replicate m .un) 0 [] t D)
    (he : ∀ v H, (∃ it n, D.rt it n ∧ ∃ c : Wd K, Rt c H v it) → E.rt v H) (h1 : ∀ ρ n, ¬ D.nx ρ n) (h2 : ∀ ρ n, ¬ D.bk ρ n) (h3 : ∀ ρ n, ¬ D.ct ρ n) : t E (x0 :: some (.ref p) :: rest) H := by
  have un : ∀ (m : Nat) (rest : L2.St), rest.length = m → SRs K p (Mo (⟨p, k, ms, fun a => a = p ∨ a = k, H⟩ : Wd K) ([] ++ [])) H (List.replicate m S.un) [] rest := fun m => by
    induction m with
    | zero => intro rest hl; rw [List.length_eq_zero_iff.mp hl]; exact .nil
    | succ m ih => intro rest hl; cases rest with
      | nil => cases hl
      | cons a r => exact .cons (l := []) (.un _) (ih r (by simpa using hl))
  refine h _ H [] E ⟨[], [], .cons (l := []) (.un _) (.cons (l := []) (.v .hat) (un m rest hl)), .nil, List.nodup_nil, (fun a h => by cases h), Kept.refl _ _, hh, .inl rfl, .inr rfl, fun a ha => ?_⟩ ⟨fun ρ n _ _ q => absurd q (h1 ρ n), fun it n v H' q _ _ r => he v H' ⟨it, n, q, _, r⟩, fun ρ n _ _ q => absurd q (h2 ρ n), fun ρ n _ _ q => absurd q (h3 ρ n)⟩
  rcases ha with ha | ha
  · rw [ha]; exact hh.at
  · rw [ha]; exact ⟨_, hh.cs⟩
/-! ### papers -/
def spi_PaperB (m : Nat) (ds : List D) (n : Nat) (Q : List (Str × D) → Nat → Prop) (_ : XD) : Prop := ∃ w xs, ds = [.str w, .tup xs] ∧ okF m (.tup xs) = true ∧ Q [("word", .str w), ("parts", .tup (D.fixs xs))] n
def spi_Paper (m : Nat) (ds : List D) (n : Nat) (Q : List (Str × D) → Nat → Prop) (_ : XD) : Prop := ∃ w xs, ds = .str w :: xs ∧ okF m (.tup xs) = true ∧ Q [("word", .str w), ("parts", .tup (D.fixs xs))] n
theorem starI {K : PySem.W.Frag} {C : Addr} {m : Nat} : ∀ vs H Q E, liftI K C (spi_Paper m) vs H Q E → HC.starS ["self", "word"] (liftI K C (spi_PaperB m)) vs H Q E := by
  rintro vs H Q E ⟨c, n, x, dx, ws, ds, Qd, Ed, rfl, k, w, xs, rfl, ok, q⟩
  have ra := k.ra
  cases ra with
  | @cons v rest _ _ a b =>
  cases a
  refine ⟨[.ref x, .str w], rest, rfl, rfl, ?_, fun p hp => ?_⟩
  · rw [b.len]
    cases m with
    | zero => simp [okF] at ok
    | succ m => rw [okF, Bool.and_eq_true] at ok; exact Nat.le_trans (Nat.le_of_ble_eq_true ok.1) (by decide)
  have sm : Same H (upd H p (.tup rest)) := HX.same_new hp
  have npx : p ≠ x := fun e => by rw [e, k.hx] at hp; cases hp
  have npm : ¬ c.M0 p := fun z => by obtain ⟨o, ho⟩ := k.md p z; rw [hp] at ho; cases ho
  refine ⟨⟨c.g, c.k, c.ns, c.M0, del (upd H p (.tup rest)) x⟩, n, x, dx, [.str w, .ref p], _, Qd, Ed, rfl, ⟨rfl, sm _ _ k.hx, k.nx, k.hat.same sm, k.mg, k.ml, fun a ha => ?_, .cons (.str w) (.cons (.tup (.inl ⟨fun z => z.elim npm npx, upd_same⟩) (b.mv (mv_same sm))) .nil), fun fs m H' q2 k2 h2 r2 => k.q fs m H' q2 (fun b o nb hb => k2 b o nb ?_) h2 r2⟩, w, xs, rfl, ok, q⟩
  · obtain ⟨o, ho⟩ := k.md a ha
    exact ⟨o, sm a o ho⟩
  · rw [k.h0] at hb
    unfold del at hb
    show (if b = x then none else (upd H p (.tup rest)) b) = some o
    split at hb
    · cases hb
    · rename_i nb2
      rw [if_neg nb2]
      exact sm b o hb
theorem fnr_imp {P : Program} {w : World} {K : PySem.W.Frag} {mg : Str → Option Value} {base : Heap} {CX : CXT} {k : Nat} {f : Addr} {sp sp' : Sp} (F : FnR P w K mg base CX k f sp) (h : ∀ vs H Q E, sp' vs H Q E → sp vs H Q E) : FnR P w K mg base CX k f sp' :=
  fun A outer s H us vs Q E hr e r q => F A outer s H us vs Q E hr e r (h _ _ _ _ q)
theorem enterJ {K : PySem.W.Frag} {c : Wd K} {n : Nat} {H : Hp} {x C dx : Addr} {ws : List V} {es : List D} {Q : VK} {E : XK} {Qd : List (Str × D) → Nat → Prop} {Ed : XD} {σ : L2.St} (k : InitOk c H x C dx n ws es Q E Qd Ed) {m : Nat} (eσ : σ = (V.ref x :: ws).map some ++ List.replicate m none) :
    ∃ L, StX c L [] (.me x (.ins C []) :: (es.map S.v ++ List.replicate m S.un)) n [] σ H [] := enterI (R := fun σ H => ∃ L, StX c L [] (.me x (.ins C []) :: (es.map S.v ++ List.replicate m S.un)) n [] σ H []) k eσ fun L s => ⟨L, s⟩
/-- a paper of class C: its word, its parts -/
structure Pp (K : PySem.W.Frag) (CP C : Addr) (nm : Str) (fs : List (Str × D)) (u : Str) (d : D) : Prop where
  pc : HC.PC K CP C nm
  wd : fs.lookup ("word" : Str) = some (.str u)
  pt : fs.lookup ("parts" : Str) = some d
section
variable {K : PySem.W.Frag} {c : Wd K} {ρ : List S} {n : Nat} {ds : List I} {Q : QI}
theorem exfld_ {it : I} {C : Addr} {fs : List (Str × D)} {f : Str} {d : D} {P : D → Prop} (e : it.val = .ins C fs) (h1 : Cls K C) (h2 : NoAttr K C f) (h3 : fs.lookup f = some d) (q : P d) : ∃ C fs d, it.val = .ins C fs ∧ Cls K C ∧ NoAttr K C f ∧ fs.lookup f = some d ∧ P d := ⟨C, fs, d, e, h1, h2, h3, q⟩
theorem excls_ {it : I} {C : Addr} {fs : List (Str × D)} {P : Addr → Prop} (e : it.val = .ins C fs) (h1 : HP.HasCls K C) (q : P C) : ∃ C fs, it.val = .ins C fs ∧ HP.HasCls K C ∧ P C := ⟨C, fs, e, h1, q⟩
theorem exsetM_ {io it : I} {ρ2 : List S} {i : Nat} {d0 : D} {x C : Addr} {fs : List (Str × D)} {f : Str} {nx : QS} {n2 : Nat} (e1 : io = .b i d0) (e2 : clean ds = true) (e3 : (frz1 ρ2 it)[i]? = some (.me x (.ins C fs))) (h1 : Cls K C) (h2 : NoAttr K C f) (e4 : Nat.ble fs.length 900 = true) (q : nx ((frz1 ρ2 it).set i (.me x (.ins C (putD f it.val fs)))) n2) : SM K ds f it io ρ2 n2 nx := ⟨i, d0, x, C, fs, e1, e2, e3, h1, h2, e4, q⟩
end
section
variable {K : PySem.W.Frag} {c : Wd K} {ρ : List S} {n : Nat} {ds : List I}
theorem while_ {cc : TT} {tb : TS} {nx bk ct : QS} {rt : I → Nat → Prop} (P : Nat → QS) (m : Nat) (h0 : P m ρ n)
    (hs : ∀ m ρ n, P m ρ n → GT c ρ n ds cc fun b ρ1 n1 => if b = true then GS c ρ1 n1 ds tb ⟨fun ρ n => ∃ m', m' < m ∧ P m' ρ n, rt, nx, fun ρ n => ∃ m', m' < m ∧ P m' ρ n⟩ else nx ρ1 n1) : GS c ρ n ds (tWhile cc tb) ⟨nx, rt, bk, ct⟩ := fun σ H vs E s k => by
  refine ⟨fun m σ H => ∃ ρ n, P m ρ n ∧ St c ρ n ds σ H vs, ⟨m, ρ, n, h0, s⟩, ?_⟩
  rintro m σ H ⟨ρ, n, p, s⟩
  refine hs m ρ n p σ H vs _ s fun b ρ1 n1 H1 q s1 => ?_
  cases b with
  | true =>
    rw [if_pos rfl] at q ⊢
    refine ⟨fun σ H => ∃ m', m' < m ∧ ∃ ρ n, P m' ρ n ∧ St c ρ n ds σ H vs, fun σ' H' ⟨m', hm, z⟩ => ⟨m', hm, z⟩, ?_⟩
    exact q σ H1 vs _ s1 ⟨fun ρ n σ H ⟨m', hm, z⟩ s => ⟨m', hm, ρ, n, z, s⟩, k.rt, fun ρ n σ H q s => k.nx _ _ _ _ q s, fun ρ n σ H ⟨m', hm, z⟩ s => ⟨m', hm, ρ, n, z, s⟩⟩
  | false =>
    rw [if_neg Bool.false_ne_true] at q ⊢
    exact k.nx _ _ _ _ q s1
end
/-! ### isinstance with one built-in type -/
def isIntB : D → Bool
  | .int _ => true
  | .bl _ => true
  | _ => false
theorem kitInt {K : PySem.W.Frag} {d : D} {t : String} (e : d.tn = some t) : PySem.W.kitOne K (.type t) (.type "int") = some (isIntB d) := by
  cases d <;> first | (cases e; done) | skip
  all_goals (cases e; dsimp only [isIntB]; exact kit_ty (by decide +kernel))
theorem isiInt_ {K : PySem.W.Frag} {c : Wd K} {ρ : List S} {n : Nat} {ds : List I} {Q : QI} {it : I} (e : it.val.tn.isSome = true) (h : Q (.v (.bl (isIntB it.val))) ρ n) : GB c ρ n ds (rIsi K) [it, .v (.ty "int")] Q := by
  cases z : it.val.tn with
  | none => rw [z] at e; cases e
  | some t => exact isiB_ z (kitInt z) h
def isBoolB : D → Bool
  | .bl _ => true
  | _ => false
theorem kitBool {K : PySem.W.Frag} {d : D} {t : String} (e : d.tn = some t) : PySem.W.kitOne K (.type t) (.type "bool") = some (isBoolB d) := by
  cases d <;> first | (cases e; done) | skip
  all_goals (cases e; dsimp only [isBoolB]; exact kit_ty (by decide +kernel))
theorem isiBool_ {K : PySem.W.Frag} {c : Wd K} {ρ : List S} {n : Nat} {ds : List I} {Q : QI} {it : I} (e : it.val.tn.isSome = true) (h : Q (.v (.bl (isBoolB it.val))) ρ n) : GB c ρ n ds (rIsi K) [it, .v (.ty "bool")] Q := by
  cases z : it.val.tn with
  | none => rw [z] at e; cases e
  | some t => exact isiB_ z (kitBool z) h
def isStrB : D → Bool
  | .str _ => true
  | _ => false
theorem kitStr {K : PySem.W.Frag} {d : D} {t : String} (e : d.tn = some t) : PySem.W.kitOne K (.type t) (.type "str") = some (isStrB d) := by
  cases d <;> first | (cases e; done) | skip
  all_goals (cases e; dsimp only [isStrB]; exact kit_ty (by decide +kernel))
theorem isiStr_ {K : PySem.W.Frag} {c : Wd K} {ρ : List S} {n : Nat} {ds : List I} {Q : QI} {it : I} (e : it.val.tn.isSome = true) (h : Q (.v (.bl (isStrB it.val))) ρ n) : GB c ρ n ds (rIsi K) [it, .v (.ty "str")] Q := by
  cases z : it.val.tn with
  | none => rw [z] at e; cases e
  | some t => exact isiB_ z (kitStr z) h
def isListB : D → Bool
  | .lst _ => true
  | _ => false
theorem kitList {K : PySem.W.Frag} {d : D} {t : String} (e : d.tn = some t) : PySem.W.kitOne K (.type t) (.type "list") = some (isListB d) := by
  cases d <;> first | (cases e; done) | skip
  all_goals (cases e; dsimp only [isListB]; exact kit_ty (by decide +kernel))
theorem isiList_ {K : PySem.W.Frag} {c : Wd K} {ρ : List S} {n : Nat} {ds : List I} {Q : QI} {it : I} (e : it.val.tn.isSome = true) (h : Q (.v (.bl (isListB it.val))) ρ n) : GB c ρ n ds (rIsi K) [it, .v (.ty "list")] Q := by
  cases z : it.val.tn with
  | none => rw [z] at e; cases e
  | some t => exact isiB_ z (kitList z) h
def isTupB : D → Bool
  | .tup _ => true
  | _ => false
theorem kitTup {K : PySem.W.Frag} {d : D} {t : String} (e : d.tn = some t) : PySem.W.kitOne K (.type t) (.type "tuple") = some (isTupB d) := by
  cases d <;> first | (cases e; done) | skip
  all_goals (cases e; dsimp only [isTupB]; exact kit_ty (by decide +kernel))
theorem isiTup_ {K : PySem.W.Frag} {c : Wd K} {ρ : List S} {n : Nat} {ds : List I} {Q : QI} {it : I} (e : it.val.tn.isSome = true) (h : Q (.v (.bl (isTupB it.val))) ρ n) : GB c ρ n ds (rIsi K) [it, .v (.ty "tuple")] Q := by
  cases z : it.val.tn with
  | none => rw [z] at e; cases e
  | some t => exact isiB_ z (kitTup z) h
theorem rngB_ {i : Int} {P : Prop} (e : -(2 ^ 62) ≤ i ∧ i < 2 ^ 62) (h : P) : (-(2 ^ 62) ≤ i ∧ i < 2 ^ 62) ∧ P := ⟨e, h⟩
theorem rngC_ {i j : Int} {P : Prop} (e : -(2 ^ 62) ≤ i ∧ i < 2 ^ 62 ∧ -(2 ^ 62) ≤ j ∧ j < 2 ^ 62) (h : P) : (-(2 ^ 62) ≤ i ∧ i < 2 ^ 62 ∧ -(2 ^ 62) ≤ j ∧ j < 2 ^ 62) ∧ P := ⟨e, h⟩
theorem cle_ {own : List Nat} {ds : List I} {P : Prop} (e : cleanO own ds = true) (h : P) : cleanO own ds = true ∧ P := ⟨e, h⟩
section
variable {K : PySem.W.Frag} {c : Wd K} {ρ : List S} {n : Nat} {ds : List I} {Q : QI}
/-- i if b else j: one way on, with a letter -/
theorem joinI_ {b : Bool} {i j : Int} (h : ∀ e : Int, (b = true ∧ e = i ∨ b = false ∧ e = j) → Q (.v (.int e)) ρ n) : if b = true then GE c ρ n ds (tC (.int i)) Q else GE c ρ n ds (tC (.int j)) Q := by
  cases b with
  | true => exact cint_ (h i (.inl ⟨rfl, rfl⟩))
  | false => exact cint_ (h j (.inr ⟨rfl, rfl⟩))
theorem joinN_ {b : Bool} {i j : Int} (h : ∀ e : Int, (b = true ∧ e = i ∨ b = false ∧ e = -j) → Q (.v (.int e)) ρ n) : if b = true then GE c ρ n ds (tC (.int i)) Q else GE c ρ n ds (tUn (rU fun i => .int (-i)) (tC (.int j))) Q := by
  cases b with
  | true => exact cint_ (h i (.inl ⟨rfl, rfl⟩))
  | false => exact un_ (cint_ (u_ (h (-j) (.inr ⟨rfl, rfl⟩))))
/-- two ways that come to one -/
theorem joinE_ {b : Bool} {t u : TE} (Mid : QI) (h1 : b = true → GE c ρ n ds t Mid) (h2 : b = false → GE c ρ n ds u Mid) (h : ∀ it ρ n, Mid it ρ n → Q it ρ n) : if b = true then GE c ρ n ds t Q else GE c ρ n ds u Q := by
  cases b with
  | true => exact (h1 rfl).mono h
  | false => exact (h2 rfl).mono h
end
theorem atD_some {xs : List D} {z : Int} (h0 : 0 ≤ z) (h1 : z < xs.length) : ∃ v, atI xs z = some v ∧ v ∈ xs := by
  obtain ⟨k, rfl⟩ := Int.eq_ofNat_of_zero_le h0
  have hk : k < xs.length := by omega
  exact ⟨xs[k], atI_nat (List.getElem?_eq_getElem hk), List.getElem_mem hk⟩
theorem exlstD_ {ys : List D} {P : List D → Prop} (h : P ys) : ∃ xs, D.lst ys = D.lst xs ∧ P xs := ⟨ys, rfl, h⟩
theorem rngT1 {lo : Int} : rngD lo (Int.toNat 1) = [.int (lo + 0)] := rfl
theorem rngT2 {lo : Int} : rngD lo (Int.toNat 2) = [.int (lo + 0), .int (lo + 1)] := rfl
theorem rngT3 {lo : Int} : rngD lo (Int.toNat 3) = [.int (lo + 0), .int (lo + 1), .int (lo + 2)] := rfl
theorem rngT4 {lo : Int} : rngD lo (Int.toNat 4) = [.int (lo + 0), .int (lo + 1), .int (lo + 2), .int (lo + 3)] := rfl
theorem rngT5 {lo : Int} : rngD lo (Int.toNat 5) = [.int (lo + 0), .int (lo + 1), .int (lo + 2), .int (lo + 3), .int (lo + 4)] := rfl
theorem rngT6 {lo : Int} : rngD lo (Int.toNat 6) = [.int (lo + 0), .int (lo + 1), .int (lo + 2), .int (lo + 3), .int (lo + 4), .int (lo + 5)] := rfl
/-- a new thing may be handed back as one that no one changes -/
def WQ (Q : I → Nat → Prop) : I → Nat → Prop := fun it n => Q it n ∨ ∃ d, it = .o d ∧ Q (.v d) n
theorem wl_ {Q : I → Nat → Prop} {it : I} {n : Nat} (h : Q it n) : WQ Q it n := .inl h
theorem wv_ {Q : I → Nat → Prop} {d : D} {n : Nat} (h : Q (.v d) n) : WQ Q (.o d) n := .inr ⟨d, rfl, h⟩
theorem CallOk.w {K : PySem.W.Frag} {c : Wd K} {H : Hp} {n : Nat} {vs : List V} {ds : List D} {Q : VK} {E : XK} {Qd : I → Nat → Prop} {Ed : XD} (k : CallOk c H n vs ds Q E Qd Ed) : CallOk c H n vs ds Q E (WQ Qd) Ed :=
  ⟨k.h0, k.hat, k.mg, k.ml, k.md, k.ra, fun it n' v H' q k1 k2 r => by
    rcases q with q | ⟨d, rfl, q⟩
    · exact k.q _ _ _ _ q k1 k2 r
    · obtain ⟨p, rfl, hp, np, r⟩ := r
      exact k.q _ _ _ _ q k1 k2 (show R K c.g c.M0 H' (.ref p) d from (r.mv (mv_less fun a ha => .inl ha) fun _ h => h).r np), k.e⟩
section
variable {K : PySem.W.Frag} {c : Wd K} {ρ : List S} {n : Nat} {ds : List I}
/-- a, b, .. = x, y, ..: the tuple is laid and read at once -/
theorem asgT_ {ta : TA} {gs : TGs} {m : Nat} {nx bk ct : QS} {rt : I → Nat → Prop} (h : GA c ρ n ds ta fun its ρ' n' => Nat.ble its.length 1000 = true ∧ its.length = m ∧ GGs c ρ' n' ds gs its nx) : GS c ρ n ds (tAsg (tTup ta) (gTup K m gs)) ⟨nx, rt, bk, ct⟩ := fun σ H vs E s k =>
  h σ H vs _ s fun its ρ' n' xs H' ⟨hb, hm, q⟩ hl s' => by
    refine ⟨Nat.le_trans (by rw [hl]; exact Nat.le_of_ble_eq_true hb) (by decide), fun p hp => ⟨p, xs, rfl, SqT.of upd_same, by rw [hl]; exact hm, ?_⟩⟩
    exact q σ _ vs xs E.nx hl (s'.same (HX.same_new hp)) fun ρ2 n2 σ2 H2 q2 s2 => k.nx _ _ _ _ q2 s2
theorem leneq_ {its : List I} {b : Nat} {P : Prop} (e : its.length = b) (h : P) : its.length = b ∧ P := ⟨e, h⟩
end
section
variable {X : Cx} {K : PySem.W.Frag} {T id : String} {name : Str} {r : V → List V → Hp → VK → Prop} {o e : Expr} {es : List Expr} {to : TE} {t : TA} {apos cpos : Pos}
theorem pe_bm0K (pa : PlainAttrs T) (slot : Slot T name id) (hty : typeOf (.builtin id) = pure (.type "method_descriptor")) (hm : MtR X id r) (ho : PE X o to)
    (hbase : attributeBase o name X.env (eval o X.env) = eval o X.env := by rfl) (hline : (apos.endLine == cpos.line) = true := by rfl) (hK : X.K = K := by rfl) : PE X (.Call (.Attribute o name apos) [] [] cpos) (tBM0 K T r to) := by
  cases hK; exact pe_bm0 pa slot hty hm ho hbase hline
theorem pe_bmK (pa : PlainAttrs T) (slot : Slot T name id) (hty : typeOf (.builtin id) = pure (.type "method_descriptor")) (hm : MtR X id r) (ho : PE X o to) (ha : PA X (e :: es) t)
    (hbase : attributeBase o name X.env (eval o X.env) = eval o X.env := by rfl)
    (hfew : ((backTo cpos (starEach (e :: es) X.env)).all (fun x => !x.1) && (backToKw cpos (keywordEach [] X.env)).all (fun x => x.1.isSome)
      && decide ((e :: es).length + ([] : List Keyword).length + (if ([] : List Keyword).isEmpty then 0 else 1) < 30)) = true := by rfl)
    (hline : (apos.endLine == cpos.line) = true := by rfl) (hs : starEach (e :: es) X.env = (false, eval e X.env) :: starEach es X.env := by rfl) (hplain : (backTo cpos (starEach es X.env)).any (·.1) = false := by rfl) (hK : X.K = K := by rfl) :
    PE X (.Call (.Attribute o name apos) (e :: es) [] cpos) (tBM K T r to t) := by
  cases hK; exact pe_bm pa slot hty hm ho ha hbase hfew hline hs hplain
theorem mt_lcountK (hK : X.K = K := by rfl) : MtR X "list.count" (rCntI K) := by cases hK; exact mt_lcount
end
end HD
/-! further steps on data -/
namespace HD
open PySem PySem.Spec PyProof.Rows L2 HX
/-- is, is not between truths -/
def rIsB : R2 := fun x y H Q => ∃ a b, x = .bl a ∧ y = .bl b ∧ Q (.bl (a == b)) H
def rNotB : R2 := fun x y H Q => ∃ a b, x = .bl a ∧ y = .bl b ∧ Q (.bl (!(a == b))) H
theorem op_isU {X : Cx} : OpR X (compareOp .Is) rIsB := by
  intro pins s σ H x y v u Q I rx ry h
  obtain ⟨a, b, rfl, rfl, q⟩ := h
  cases rx
  cases ry
  exact is_bool (fin_bl I q rfl)
theorem op_notU {X : Cx} : OpR X (compareOp .IsNot) rNotB := by
  intro pins s σ H x y v u Q I rx ry h
  obtain ⟨a, b, rfl, rfl, q⟩ := h
  cases rx
  cases ry
  exact isnot_bool (fin_bl I q rfl)
section
variable {K : PySem.W.Frag} {c : Wd K} {ρ : List S} {n : Nat} {ds : List I} {Q : QI} {QB : Bool → QS}
theorem isB_ {a b : Bool} (h : Q (.v (.bl (a == b))) ρ n) : GO c ρ n ds rIsB (.v (.bl a)) (.v (.bl b)) Q := fun σ H vs x y F s k => by
  obtain rfl := R.eBl s.two.1; obtain rfl := R.eBl s.two.2
  exact ⟨a, b, rfl, rfl, k _ _ _ _ _ h (s.pop.pop.pushS rfl)⟩
theorem notB_ {a b : Bool} (h : Q (.v (.bl (!(a == b)))) ρ n) : GO c ρ n ds rNotB (.v (.bl a)) (.v (.bl b)) Q := fun σ H vs x y F s k => by
  obtain rfl := R.eBl s.two.1; obtain rfl := R.eBl s.two.2
  exact ⟨a, b, rfl, rfl, k _ _ _ _ _ h (s.pop.pop.pushS rfl)⟩
/-- the truth of a paper, by its own __bool__ -/
theorem truP_ {ta : TE} {f1 f2 : Addr} (h : GE c ρ n ds ta fun it ρ' n' => ∃ C fs b, it.val = .ins C fs ∧ ((HB.BoolCls K C f1 ∧ b = true) ∨ (HB.BoolCls K C f2 ∧ b = false)) ∧ QB b ρ' n') : GT c ρ n ds (fun σ H Q => ta σ H fun x H' => HB.rTruB K f1 true x H' Q ∨ HB.rTruB K f2 false x H' Q) QB := fun σ H vs F s k => by
  refine tru_ (r := fun x H Q => HB.rTruB K f1 true x H Q ∨ HB.rTruB K f2 false x H Q) ?_ σ H vs F s k
  refine h.mono fun it ρ n ⟨C, fs, b, e, hb, q⟩ => ⟨C, fs, b, e, fun a dx fv H F ha hF => ?_, q⟩
  rcases hb with ⟨hb, rfl⟩ | ⟨hb, rfl⟩
  · exact .inl ⟨a, C, dx, fv, rfl, ha, hb, hF⟩
  · exact .inr ⟨a, C, dx, fv, rfl, ha, hb, hF⟩
/-! lists of ints -/
theorem pys_ints : ∀ xs : List Int, D.pys (xs.map D.int) = xs.map PyData.int
  | [] => rfl
  | x :: xs => by rw [List.map_cons, D.pys, pys_ints xs, D.py]; rfl
theorem dats_ints : ∀ xs : List Int, D.dats (xs.map D.int) = true
  | [] => rfl
  | x :: xs => by rw [List.map_cons, D.dats, dats_ints xs, D.dat]; rfl
end
end HD
/-! bool(o), o an instance with an own __bool__ -/
namespace HN
open PySem PySem.Spec PyProof.Rows L2 HX
theorem bool_meetsIn {prog : Program} {w : World} (x : Value) : MeetsIn prog w (Builtin.«bool.__new__» ⟨[.type "bool", x], []⟩) (fun A R s => wpAny (model prog w) A.in1 (truthy x) (fun b s' => R (.ok (.ret (.bool b))) s') (fun e s' => R (.error e) s') s) :=
  .of_wp fun A R s h => by
    have hsub := F.conv_sub_bool
    obtain ⟨hp, g, d, tk, os⟩ := s
    repeat (any_goals (first | assumption | (refine wpAny_mono h (fun b s' q => ?_) (fun _ _ q => q)) | wp_step))
    all_goals first | exact ⟨_, rfl, q⟩ | skip
section
variable {X : Cx} {K : PySem.W.Frag} {n : Nat} {f : Addr} {fd : FuncData} {ps : List Str} {b : Bool}
def rBoolB (K : PySem.W.Frag) (f : Addr) (b : Bool) : List V → Hp → VK → Prop := fun xs H Q => ∃ a C dx fs, xs = [.ref a] ∧ H a = some (.ins C dx fs) ∧ HB.BoolCls K C f ∧ Q (.bl b) H
theorem call_boolO (F : FnOk X.prog X.w X.K X.mg X.base CX0 n f fd ps (HB.spB b)) (hb : Binds X.K fd ps []) (hr : Room (n + 2) X.A) (hK : X.K = K := by rfl) : CallR X (.type "bool") (rBoolB K f b) := by
  cases hK
  intro pins s σ H xs us Q I rx h
  obtain ⟨a, C, dx, fs, rfl, ha, k, q⟩ := h
  obtain rfl := Vals.ref1 rx
  refine callType_newIn PySem.F.called_bool PySem.F.newNe_bool (PySem.F.typeCall_bool_1 _) (PySem.F.newCall_bool_1 _) (fun obj => PySem.F.args_object_init_2 obj _) PySem.F.entry_bool_new (bool_meetsIn _) ?_
  obtain ⟨mA, J, _⟩ := ins_get I.hok ha
  obtain ⟨od, J, _⟩ := J.look
  obtain ⟨m, hF⟩ := I.fr
  refine PySem.W.truthy_K hF I.ok.mod.kin J k.at_ k.fn ?_
  have hl : 1 = ps.length := F.len [.ref a] H (fun _ _ => True) E0 ⟨a, rfl, True.intro⟩
  have r2 : Vals [V.ref a] [Value.ref a] := .cons rfl .nil
  refine wpAny_call (codeAny_mono (F.run X.A.in1.in1 X.stack s H ⟨[.ref a], []⟩ [.ref a] [.ref a] (fun v H' => v = .bl b ∧ Q (.bl b) H') E0 hr.in1.in1 I.env0.in1.in1 (by
    have := hb s [.ref a] I.kIn (by simpa using hl)
    simpa using this) r2 ⟨a, rfl, rfl, q⟩) fun r s' hq => ?_)
  cases r with
  | error e => exact hq.elim
  | ok fl =>
    cases fl with
    | ret w =>
      obtain ⟨v, H', I', rv, ev, qq⟩ := I.after hq
      subst ev
      obtain rfl : w = Value.bool b := rv
      exact ⟨rfl, .bl b, H', I', rfl, qq⟩
    | next => exact hq.elim
    | brk => exact hq.elim
    | cont => exact hq.elim
end
section
open HD
variable {K : PySem.W.Frag} {c : Wd K} {ρ : List S} {n : Nat} {ds : List I} {Q : QI}
/-- a test that comes out one way, whatever happens within -/
theorem testB_ {QB : Bool → QS} {t : TT} (b : Bool) (ρ0 : List S) (n0 : Nat) (h : GT c ρ n ds t fun b' ρ' n' => b' = b ∧ ρ' = ρ0 ∧ n' = n0) (h2 : QB b ρ0 n0) : GT c ρ n ds t QB := h.mono fun b' ρ' n' ⟨e1, e2, e3⟩ => by subst e1 e2 e3; exact h2
theorem testS_ {QB : Bool → QS} {t : TT} (b : Bool) (h : GT c ρ n ds t fun b' ρ' n' => b' = b ∧ ρ' = ρ ∧ n' = n) (h2 : QB b ρ n) : GT c ρ n ds t QB := testB_ b ρ n h h2
theorem boolP_ {f1 f2 : Addr} {it : I} {C : Addr} {fs : List (Str × D)} {b : Bool} (e : it.val = .ins C fs) (hb : (HB.BoolCls K C f1 ∧ b = true) ∨ (HB.BoolCls K C f2 ∧ b = false)) (h : Q (.v (.bl b)) ρ n) : GB c ρ n ds (fun xs H Q => rBoolB K f1 true xs H Q ∨ rBoolB K f2 false xs H Q) [it] Q := gb1 fun σ H vs x F L B s k => by
  obtain ⟨B', lx, s2, mv, hx⟩ := s.it1
  obtain ⟨a, dx, fv, rfl, ha, rf⟩ := hx.ins s.sl e
  have q := k _ _ _ _ _ h ⟨L, B', s2.pushR (.bl b)⟩
  rcases hb with ⟨hb, rfl⟩ | ⟨hb, rfl⟩
  · exact .inl ⟨a, C, dx, fv, rfl, ha, hb, q⟩
  · exact .inr ⟨a, C, dx, fv, rfl, ha, hb, q⟩
end
end HN
/-! set(xs), xs a list of integers; sorted of it -/
namespace HQ
open PySem PySem.Spec PyProof.Rows L2 HX
/-! ### set(xs), xs a list of integers -/
def emptySet (w : World) : Obj := { cls := .type "set", dict := none, data := .set #[] 0 (.fresh 0 0 (!w.params.followText "set-order")) }
section
variable {P : Program} {w : World} {A : Around} {E : Value → Shared → Prop} {s : Shared}
theorem setOfInts {l : Addr} {zs : Array Value} (ms : List Int) {Q : Value → Shared → Prop} (calm : A.handled = none) (isl : s.heap.IsList l zs) (hin : IntsAre zs.toList ms) (few : ms.length + 1 < scanBound)
    (k : ∀ (h' : Heap) (tk m : Nat), SetR w h' s.heap.objs.size (fun j => decide (j ∈ ms)) m → m ≤ ms.length → (∀ b o, s.heap.get? b = some o → h'.get? b = some o) → Q (.ref s.heap.objs.size) { s with heap := h', toks := tk }) :
    wpAny (model P w) A (call (.type "set") [.ref l]) Q E s := by
  have size : zs.size = ms.length := by rw [← Array.length_toList]; exact IntsAre.length hin
  obtain ⟨_, _, hmro⟩ := F.called_set.mro
  have m1 := F.called_set.made
  have m2 := F.called_set.sub
  refine wpAny_call (codeAny_of_tree ?_)
  show wpAny _ _ (callAny (.type "set") _) _ _ _
  refine wpAny_pure ⟨Code.quiet_builtin _ (by decide +kernel), codeAny_builtin F.entry_type_call ?_⟩
  rw [Around.under_plain (weight_type_call_type "set" [.ref l] []) rfl]
  have m3 := F.called_set.notType
  have m4 := F.called_set.canCreate
  have m5 := F.typeCall_set_1 (.ref l)
  repeat (any_goals (first | assumption | wp_step))
  refine codeAny_mono (code_set_led1 (.ref l) (E := E) (Q₁ := fun o t => o = .ref s.heap.objs.size ∧ t = { s with heap := s.heap.push (emptySet w) }) ⟨rfl, rfl⟩) fun r t hr => ?_
  match r, hr with
  | .error e, hr => exact hr
  | .ok (.ret o), hr =>
    obtain ⟨rfl, rfl⟩ := hr
    generalize eS : s.heap.push (emptySet w) = G
    have atS : G.get? s.heap.objs.size = some (emptySet w) := by rw [← eS]; exact Heap.get?_push_size _ rfl
    have old : ∀ b o, s.heap.get? b = some o → G.get? b = some o := fun b o e => by rw [← eS]; exact Heap.get?_push_of_some _ e
    have szG : G.objs.size = s.heap.objs.size + 1 := by rw [← eS]; exact Heap.size_push ..
    have ty : Shared.TypeIs { s with heap := G } (.ref s.heap.objs.size) "set" := ⟨_, atS, rfl⟩
    have n1 := F.called_set.init.lookup
    have n2 := F.called_set.init.bind (.ref s.heap.objs.size)
    repeat (any_goals (first | assumption | wp_step))
    refine codeAny_mono (codeAny_call_builtin (R := wants (fun r t => r = .none ∧ ∃ h' tk m, t = { s with heap := h', toks := tk } ∧ SetR w h' s.heap.objs.size (fun j => decide (j ∈ ms)) m ∧ m ≤ ms.length ∧ (∀ b o, s.heap.get? b = some o → h'.get? b = some o)) E) F.called_set.init.plain F.entry_set_init (check_set_init_1 ty ?_)) fun r2 t2 hr2 => ?_
    · obtain ⟨⟨oc, od, ot, os⟩, e1, e2, nl, e3⟩ := isl
      simp only at e2 e3
      subst e2; subst e3
      have atL := old _ _ e1
      have u1 := F.sub_list_set
      have u2 := F.sub_list_frozenset
      have u3 : (Value.type "list" == Value.type "dict") = false := by decide
      have isG : G.IsList l zs := ⟨_, atL, rfl, nl, rfl⟩
      unfold Builtin.«set.__init__» noKeywords Builtin.Frozenset.updateFrom
      generalize hp : pyIter = p
      wp_walk
      subst hp
      refine wpAny_pyIter_list isG (wpAny_bind (wpAny_runValue ?_))
      have lt : l < s.heap.objs.size := Heap.lt_size e1
      have calm3 : A.in1.in1.in1.handled = none := by simp [calm]
      have ne : l ≠ G.objs.size := by rw [szG]; exact Nat.ne_of_lt (Nat.lt_succ_of_lt lt)
      have nin : s.heap.objs.size ∉ [G.objs.size, l] := by
        rw [szG]
        simp only [List.mem_cons, List.not_mem_nil, or_false, not_or]
        exact ⟨Nat.ne_of_lt (Nat.lt_succ_self _), Nat.ne_of_gt lt⟩
      refine set_update_ints ((Walks.list calm3 _ l ne zs).toS) s.heap.objs.size nin ms size few (fun i v hv => ?_) (zs.size - 0) 0 _ (by omega) (Nat.zero_le _) ⟨⟨_, Heap.get?_push_size _ rfl, rfl, rfl⟩, isG.push _⟩ ⟨0, Nat.le_refl 0, setR_new_at (Heap.get?_push_of_some _ atS)⟩ (fun t m hm hc hS => ?_)
      · have hi : i < ms.length := by rw [← size]; exact (Array.getElem?_eq_some_iff.mp hv).1
        obtain ⟨tk, e⟩ := PyProof.Rows.IntsAre.int_at hin i v (by rw [Array.getElem?_toList]; exact hv)
        refine ⟨ms[i], tk, List.getElem?_eq_getElem hi, ?_⟩
        rw [e, List.getD_eq_getElem?_getD, List.getElem?_eq_getElem hi] <;> rfl
      · obtain ⟨h', g2, d2, tk, os2⟩ := t
        obtain rfl : g2 = s.gens := hm.gens
        obtain rfl : d2 = s.drawn := hm.drawn
        obtain rfl : os2 = s.os := hm.os
        show wpAny _ _ _ _ _ _
        refine wpAny_pure ?_
        show wpAny _ _ (ret Value.none) _ _ _
        rw [size] at hc
        refine wpAny_pure ⟨rfl, h', tk, m, rfl, hS, hc, fun b o e => hm.heap b o ?_ (Heap.get?_push_of_some _ (old b o e))⟩
        have hb : b < s.heap.objs.size := Heap.lt_size e
        rw [szG]
        simp only [List.mem_cons, List.not_mem_nil, or_false, not_or]
        exact ⟨Nat.ne_of_lt hb, Nat.ne_of_lt (Nat.lt_succ_of_lt hb)⟩
    · match r2, hr2 with
      | .error e, hr2 => exact hr2
      | .ok (.ret r), hr2 =>
        obtain ⟨rfl, h', tk, m, rfl, a1, a2, a3⟩ := hr2
        repeat (any_goals (first | assumption | wp_step))
        exact k _ _ _ a1 a2 a3
      | .ok .next, hr2 => exact hr2.elim
      | .ok .brk, hr2 => exact hr2.elim
      | .ok .cont, hr2 => exact hr2.elim
  | .ok .next, hr => exact hr.elim
  | .ok .brk, hr => exact hr.elim
  | .ok .cont, hr => exact hr.elim
end
section
variable {X : Cx} {K : PySem.W.Frag}
def rSetL (K : PySem.W.Frag) (w : World) : List V → Hp → VK → Prop := fun xs H Q => ∃ (l : Addr) (ns : List Int), xs = [.ref l] ∧ SqL K H l (ns.map V.int) ∧ ns.length < 1000 ∧ ∀ p m, H p = none → m ≤ ns.length → Q (.ref p) (upd H p (SetO w p (fun j => decide (j ∈ ns)) m))
theorem call_setL (hc : X.calm = true) (hK : X.K = K := by rfl) : CallR X (.type "set") (rSetL K X.w) := by
  cases hK
  intro pins s σ H xs us Q I r h
  obtain ⟨l, ns, rfl, hq, hl, q⟩ := h
  obtain rfl := Vals.ref1 r
  obtain ⟨its, rv, pl, hz⟩ := I.list hq
  refine setOfInts (I.ok.hd hc) pl.isList (ms := ns) (by simpa using rv.ints) (by unfold scanBound; omega) fun h' tk m hS hm hk => ?_
  exact ⟨.ref _, _, I.laid (t' := tk) hk (Nat.le_refl _) (setO_new hS), rfl, q _ m (I.hok.fresh (Nat.le_refl _)) hm⟩
end
section
open HD
variable {K : PySem.W.Frag} {c : Wd K} {ρ : List S} {n : Nat} {ds : List I} {Q : QI}
/-- sorted(set(e)) -/
theorem sortSet_ {w : World} {te : TE} (h : GE c ρ n ds te fun it ρ' n' => ∃ ns : List Int, it.val = .lst (ns.map D.int) ∧ ns.length < 64 ∧ ∀ ms : List Int, ms.Pairwise (· < ·) → (∀ k, k ∈ ms ↔ k ∈ ns) → ms.length ≤ ns.length → Q (.o (.lst (ms.map D.int))) ρ' n') :
    GE c ρ n ds (tCB (rSortedSet w) (tCons (tCB (rSetL K w) (tCons te tNil)) tNil)) Q := fun σ H vs F s k =>
  h σ H vs _ s fun it ρ' n' v H' ⟨ns, e, hl, q⟩ ⟨L, B, s'⟩ => by
    obtain ⟨a, ws, B', e1, e2, s2, ra⟩ := s'.lsp e
    obtain rfl := ra.ints
    subst e1
    refine ⟨a, ns, rfl, SqL.of e2, by omega, fun p m hp hm => ?_⟩
    refine ⟨p, _, m, rfl, upd_same, by omega, fun ms r hs hm2 hln hr => ?_⟩
    have s3 := s2.same (HX.same_new (o := SetO w p (fun j => decide (j ∈ ns)) m) hp)
    exact k _ _ _ _ _ (q ms hs (fun k => (hm2 k).trans ⟨fun z => of_decide_eq_true z, fun z => decide_eq_true z⟩) (by omega)) ⟨L, _, s3.pushO hr (RA.ofInts ms)⟩
end
end HQ
/-! repr of data; sorted(set(..)) of integers; zip, enumerate on data -/
namespace HU
open PySem PySem.Spec PyProof.Rows L2 HX
theorem nd_ {c : Prop} [Decidable c] (h : c) : (!decide c) = false := by rw [decide_eq_true h]; rfl
theorem nt_ {c : Prop} [Decidable c] (h : ¬ c) : (!decide c) = true := by rw [decide_eq_false h]; rfl
/-! ### repr -/
def rRep (K : PySem.W.Frag) : List V → Hp → VK → Prop := fun xs H Q => ∃ p d, xs = [.ref p] ∧ Dp K H (.ref p) d ∧ d.showable = true ∧ d.hasDict = false ∧ d.depth < 30 ∧ d.shown.length ≤ sizeLine ∧ Q (.str d.shown) H
theorem call_reprD {X : Cx} {K : PySem.W.Frag} (hu : X.A.units + 64 < cLine) (hg : X.A.guards = some [] := by rfl) (hK : X.K = K := by rfl) : CallR X (.builtin "repr") (rRep K) := by
  cases hK
  intro pins s σ H xs us Q I r h
  obtain ⟨p, d, rfl, hd, h1, h2, h3, h4, q⟩ := h
  obtain rfl := Vals.ref1 r
  obtain ⟨as, r1⟩ := Dp.reads I d (.ref p) (.ref p) hd rfl
  refine repr_of_reads' r1 h1 (fun z => by rw [h2] at z; cases z) hg (by omega) (fun _ _ z => z) (fun h' u tk hk => ?_) h4
  exact ⟨.str d.shown, H, I.kept hk, ⟨_, rfl⟩, q⟩
section
open HD
variable {K : PySem.W.Frag} {c : Wd K} {ρ : List S} {n : Nat} {ds : List I} {Q : QI}
theorem repr_ {it : I} (hd : it.val.dat = true) (hr : it.val.seq.isSome = true) (h1 : it.val.py.showable = true) (h2 : it.val.py.hasDict = false) (h3 : it.val.py.depth < 30) (h4 : it.val.py.shown.length ≤ sizeLine) (h : Q (.v (.str it.val.py.shown)) ρ n) : GB c ρ n ds (rRep K) [it] Q := gb1 fun σ H vs x F L B s k => by
  obtain ⟨B', lx, s2, mv, hx⟩ := s.it1
  have dp := hx.dpv s.sl hd
  cases e : it.val.seq with
  | none => rw [e] at hr; cases hr
  | some xs =>
    obtain ⟨a, ws, rfl, _⟩ := IR.seq s.sl hx e
    exact ⟨a, _, rfl, dp, h1, h2, h3, h4, k _ _ _ _ _ h ⟨L, B', s2.pushR (.str _)⟩⟩
def zipD : List D → List D → List D := List.zipWith fun a b => .tup [a, b]
theorem zipD_at : ∀ {xs ys : List D} {i : Nat} {d : D}, (zipD xs ys)[i]? = some d → ∃ x y, xs[i]? = some x ∧ ys[i]? = some y ∧ d = .tup [x, y]
  | [], _, _, _, h => by simp [zipD] at h
  | _ :: _, [], _, _, h => by simp [zipD] at h
  | x :: xs, y :: ys, 0, d, h => by cases h; exact ⟨x, y, rfl, rfl, rfl⟩
  | x :: xs, y :: ys, i + 1, d, h => zipD_at (xs := xs) (ys := ys) (i := i) h
theorem zipD_len {xs ys : List D} : (zipD xs ys).length = min xs.length ys.length := by unfold zipD; rw [List.length_zipWith]
theorem izipL_ {ta : TA} {Q : List I → List D → QS} (h : GA c ρ n ds ta fun its ρ' n' => ∃ x y xs ys, its = [x, y] ∧ x.val = .lst xs ∧ y.val = .lst ys ∧ Q [.v (.lst xs), .v (.lst ys)] (zipD xs ys) (frz [x, y] ρ') n') : GI c ρ n ds (RZ.iZipA K ta) Q := fun σ H vs F s k =>
  h σ H vs _ s fun its ρ' n' ws H' ⟨ix, iy, xs, ys, e, ex, ey, q⟩ hl s' => by
    subst e
    match ws, hl with
    | [x, y], _ =>
    have s2 : St c (frz [ix, iy] ρ') n' (.v (.lst xs) :: .v (.lst ys) :: ds) σ H' (x :: y :: vs) := by
      have := St.frzs (is := [ix, iy]) (ws := [x, y]) rfl s'
      rw [show [ix, iy].map fv = [.v (.lst xs), .v (.lst ys)] from by simp only [List.map, fv, ex, ey]] at this
      exact this
    have main : ∀ {ρ : List S} {n : Nat} {ex : List I} {σ : L2.St} {H : Hp} {ews : List V}, ews.length = ex.length → St c ρ n (ex ++ ([.v (.lst xs), .v (.lst ys)] ++ ds)) σ H (ews ++ ([x, y] ++ vs)) → ∃ L B a b us ws, x = .ref a ∧ y = .ref b ∧ StX c L B ρ n (ex ++ ([.v (.lst xs), .v (.lst ys)] ++ ds)) σ H (ews ++ ([x, y] ++ vs)) ∧ H a = some (.lst us) ∧ RA K c.g (Mo c (L ++ B)) H us xs ∧ H b = some (.lst ws) ∧ RA K c.g (Mo c (L ++ B)) H ws ys := by
      intro ρ n ex σ H ews hl ⟨L, B, s⟩
      have r1 := s.peek (d := .lst xs) (w := x) hl
      have r2 := StX.peek (ex := ex ++ [.v (.lst xs)]) (ews := ews ++ [x]) (d := .lst ys) (w := y) (ds := ds) (vs := vs) (by simp [hl]) (by simpa using s)
      cases r1 with
      | lst _ h1 q1 =>
        cases r2 with
        | lst _ h2 q2 => exact ⟨L, B, _, _, _, _, rfl, rfl, s, h1, q1, h2, q2⟩
    obtain ⟨_, _, a, b, us, ws, rfl, rfl, _, ha, _, hb, _⟩ := main (ex := []) (ews := []) rfl s2
    refine ⟨a, b, us, ws, rfl, .inl ⟨SqL.of ha, SqL.of hb, k [.v (.lst xs), .v (.lst ys)] _ _ n' [.ref a, .ref b] _ H' q rfl s2 ⟨?_, ?_, ?_⟩⟩⟩
    · intro i ρ n ex σ H ews hi hl s
      obtain ⟨L, B, a', b', us, ws, e1, e2, s, ha, r1, hb, r2⟩ := main hl s
      cases e1; cases e2
      rw [zipD_len] at hi
      have h1 : i < us.length := by rw [r1.len]; omega
      have h2 : i < ws.length := by rw [r2.len]; omega
      exact ⟨us, ws, us[i], ws[i], SqL.of ha, SqL.of hb, List.getElem?_eq_getElem h1, List.getElem?_eq_getElem h2⟩
    · intro i d ρ n ex σ H ews z H2 hd hl s ⟨T, u, w, e1, e2, e3, e4, e5⟩
      obtain ⟨L, B, a', b', us, ws, f1, f2, s, ha, r1, hb, r2⟩ := main hl s
      cases f1; cases f2
      subst e1 e3
      obtain ⟨dx, dy, g1, g2, rfl⟩ := zipD_at hd
      obtain ⟨u', hu, ru⟩ := r1.at g1
      obtain ⟨w', hw, rw'⟩ := r2.at g2
      have := e4 us (SqL.of ha); rw [hu] at this; cases this
      have := e5 ws (SqL.of hb); rw [hw] at this; cases this
      exact ⟨L, B, s.pushT e2 (.cons ru (.cons rw' .nil))⟩
    · intro ρ n ex σ H ews hl s
      obtain ⟨L, B, a', b', us, ws, e1, e2, s, ha, r1, hb, r2⟩ := main hl s
      cases e1; cases e2
      refine ⟨us, ws, SqL.of ha, SqL.of hb, ?_⟩
      rw [zipD_len, r1.len, r2.len]
      omega
theorem izipT_ {ta : TA} {Q : List I → List D → QS} (h : GA c ρ n ds ta fun its ρ' n' => ∃ xs ys, its = [.v (.tup xs), .v (.tup ys)] ∧ Q [.v (.tup xs), .v (.tup ys)] (zipD xs ys) ρ' n') : GI c ρ n ds (RZ.iZipA K ta) Q := fun σ H vs F s k =>
  h σ H vs _ s fun its ρ' n' ws H' ⟨xs, ys, e, q⟩ hl s2 => by
    subst e
    match ws, hl with
    | [x, y], _ =>
    have main : ∀ {ρ : List S} {n : Nat} {ex : List I} {σ : L2.St} {H : Hp} {ews : List V}, ews.length = ex.length → St c ρ n (ex ++ ([.v (.tup xs), .v (.tup ys)] ++ ds)) σ H (ews ++ ([x, y] ++ vs)) → ∃ L B a b us ws, x = .ref a ∧ y = .ref b ∧ StX c L B ρ n (ex ++ ([.v (.tup xs), .v (.tup ys)] ++ ds)) σ H (ews ++ ([x, y] ++ vs)) ∧ SqT K H a us ∧ RA K c.g (Mo c (L ++ B)) H us xs ∧ SqT K H b ws ∧ RA K c.g (Mo c (L ++ B)) H ws ys := by
      intro ρ n ex σ H ews hl ⟨L, B, s⟩
      have r1 := s.peek (d := .tup xs) (w := x) hl
      have r2 := StX.peek (ex := ex ++ [.v (.tup xs)]) (ews := ews ++ [x]) (d := .tup ys) (w := y) (ds := ds) (vs := vs) (by simp [hl]) (by simpa using s)
      cases r1 with
      | tup h1 q1 =>
        cases r2 with
        | tup h2 q2 => exact ⟨L, B, _, _, _, _, rfl, rfl, s, h1.sqt, q1, h2.sqt, q2⟩
    obtain ⟨_, _, a, b, us, ws, rfl, rfl, _, ha, _, hb, _⟩ := main (ex := []) (ews := []) rfl s2
    refine ⟨a, b, us, ws, rfl, .inr ⟨ha, hb, k [.v (.tup xs), .v (.tup ys)] _ _ n' [.ref a, .ref b] _ H' q rfl s2 ⟨?_, ?_, ?_⟩⟩⟩
    · intro i ρ n ex σ H ews hi hl s
      obtain ⟨L, B, a', b', us, ws, e1, e2, s, ha, r1, hb, r2⟩ := main hl s
      cases e1; cases e2
      rw [zipD_len] at hi
      have h1 : i < us.length := by rw [r1.len]; omega
      have h2 : i < ws.length := by rw [r2.len]; omega
      exact ⟨us, ws, us[i], ws[i], ha, hb, List.getElem?_eq_getElem h1, List.getElem?_eq_getElem h2⟩
    · intro i d ρ n ex σ H ews z H2 hd hl s ⟨T, u, w, e1, e2, e3, e4, e5⟩
      obtain ⟨L, B, a', b', us, ws, f1, f2, s, ha, r1, hb, r2⟩ := main hl s
      cases f1; cases f2
      subst e1 e3
      obtain ⟨dx, dy, g1, g2, rfl⟩ := zipD_at hd
      obtain ⟨u', hu, ru⟩ := r1.at g1
      obtain ⟨w', hw, rw'⟩ := r2.at g2
      have := e4 us ha; rw [hu] at this; cases this
      have := e5 ws hb; rw [hw] at this; cases this
      exact ⟨L, B, s.pushT e2 (.cons ru (.cons rw' .nil))⟩
    · intro ρ n ex σ H ews hl s
      obtain ⟨L, B, a', b', us, ws, e1, e2, s, ha, r1, hb, r2⟩ := main hl s
      cases e1; cases e2
      refine ⟨us, ws, ha, hb, ?_⟩
      rw [zipD_len, r1.len, r2.len]
      omega
end
theorem pi_zipK {X : Cx} {K : PySem.W.Frag} {e e2 : Expr} {ta : TA} {p pos tpos : Pos} {elts : List Expr} {kk : Nat} (hg : Gl X "zip") (hm : X.mg "zip" = none) (ha : PA X [e, e2] ta)
    (hs : starEach [e, e2] X.env = (false, eval e X.env) :: starEach [e2] X.env := by rfl) (hpl : (backTo pos (starEach [e2] X.env)).any (·.1) = false := by rfl) (hK : X.K = K := by rfl) :
    PI X (.Tuple elts kk tpos) (.Call (.Name "zip" p) [e, e2] [] pos) (RZ.iZipA K ta) := by cases hK; exact RZ.pi_zipA hg hm ha hs hpl
/-! a, b, .. = a list or a tuple -/
def gSeq (K : PySem.W.Frag) (n : Nat) (t : TGs) : TG := fun v σ H Q => gUnl K n t v σ H Q ∨ gTup K n t v σ H Q
theorem pg_seqK {X : Cx} {K : PySem.W.Frag} {es : List Expr} {k : Nat} {pos : Pos} {t : TGs} (n : Nat) (hc : X.calm = true) (h : PGs X es t)
    (hn : (assignEach es X.env).length = n := by rfl) (hst : (assignEach es X.env).findIdx? (·.1) = none := by rfl) (hK : X.K = K := by rfl) : PG X (.Tuple es k pos) (gSeq K n t) := by
  cases hK
  refine ⟨fun pins s σ H v u Q I r hw => ?_⟩
  rcases hw with hw | hw
  · exact (HX.pg_unlK n hc h hn hst).run pins s σ H v u Q I r hw
  · exact (HX.pg_tupK n hc h hn hst).run pins s σ H v u Q I r hw
section
open HD
variable {K : PySem.W.Frag} {c : Wd K} {ρ : List S} {n : Nat} {ds : List I} {QG : QS}
theorem gseqL_ {m : Nat} {gs : TGs} {it : I} {xs : List D} (e : it.val = .lst xs) (hl : xs.length = m) (h : GGs c ρ n ds gs (xs.map I.v) QG) : GG c ρ n ds (gSeq K m gs) it QG := fun σ H vs v F s k => .inl (HD.gunl_ e hl h σ H vs v F s k)
theorem gseqT_ {m : Nat} {gs : TGs} {xs : List D} (hl : xs.length = m) (h : GGs c ρ n ds gs (xs.map I.v) QG) : GG c ρ n ds (gSeq K m gs) (.v (.tup xs)) QG := fun σ H vs v F s k => .inr (HD.gtup_ hl h σ H vs v F s k)
end
section
open HD
variable {K : PySem.W.Frag} {c : Wd K} {n : Nat} {ds : List I}
/-- behind a loop: the ways out come to one -/
theorem endBy {g : TG} {tb : TS} {nx bk ct : QS} {rt : I → Nat → Prop} (Mid : QS) : ∀ {xs : List D} {ρ : List S} {n : Nat}, ForD c ds g tb ⟨Mid, rt, bk, ct⟩ xs ρ n → (∀ ρ n, Mid ρ n → nx ρ n) → ForD c ds g tb ⟨nx, rt, bk, ct⟩ xs ρ n
  | [], _, _, h, h2 => h2 _ _ h
  | x :: xs, _, _, h, h2 => fun σ H vs v F s k => h σ H vs v F s fun ρ1 n1 σ1 H1 q s1 => k _ _ _ _ (q.mono (fun ρ n z => endBy Mid z h2) (fun _ _ z => z) (fun ρ n z => h2 ρ n z) (fun ρ n z => endBy Mid z h2)) s1
end
end HU
/-! a law whose own body calls repr: its promise is wanted only where no repr is under way -/
namespace HV
open PySem PySem.Spec PyProof.Rows L2 HX
structure FnG (P : Program) (w : World) (K : PySem.W.Frag) (mg : Str → Option Value) (base : Heap) (k : Nat) (f : Addr) (fd : FuncData) (ps : List Str) (sp : Sp) : Prop where
  run : ∀ (A : Around) (outer : List Env) (s : Shared) (H : Hp) (us : List Value) (vs : List V) (Q : VK) (E : XK), A.guards = some [] → Room k A → Env0 P w K mg base A outer s H → BindsTo s fd ⟨us, []⟩ (ps.zip us) → Vals vs us → sp vs H Q E →
    codeAny (model P w) A (.call (.ref f) ⟨us, []⟩) (CR CX0 outer P w H s Q E) s
section
variable {P : Program} {w : World} {K : PySem.W.Frag} {mg : Str → Option Value} {base : Heap}
theorem okG {x qual : Str} {st : Stmt} {f : Addr} {fd : FuncData} {N ps : List Str} {k : Nat} {sp : Sp} (F : Fun K x qual st f fd) (S : FnScope N ps (defScope st)) (len : ∀ vs H Q E, sp vs H Q E → vs.length = ps.length)
    (hbody : ∀ (cdv : Value) (A : Around) (outer : List Env) (s : Shared) (H : Hp) (vs : List V) (Q : VK) (E : XK), (A.deeper (envOfC qual (defScope st) s.heap.objs.size f cdv)).guards = some [] → Room k (A.deeper (envOfC qual (defScope st) s.heap.objs.size f cdv)) → sp vs H Q E →
      ∃ t, PSs (cxOf CX0 P w K mg base N qual (defScope st) f cdv A outer s H E).nox (defBody st) t ∧ t { nx := fun _ H' => Q .non H', rt := Q } (start N vs) H) : FnG P w K mg base (k + 1) f fd ps sp := by
  obtain ⟨oc, od, kV, doc, pm, an, cdv, ct, osl, rfl, lk, hcd⟩ := F.ex
  refine ⟨fun A outer s H us vs Q E hg hr e0 hb r hsp => ?_⟩
  have KX : K.In s.heap := e0.mod.kin.keeps fun b o e => (e0.bs b o e).1
  have lim : s.heap.NoLimit := e0.mod.nolimit.keeps fun b o e => (e0.bs b o e).1
  refine Att.call_fn KX lim lk hcd hr.depth hb ?_ (fun s1 x => ?_) S.co S.gen S.kind
  · refine List.all_eq_true.mpr fun y hy => ?_
    rcases S.par y.1 (List.of_mem_zip (a := y.1) (b := y.2) hy).1 with q | q <;> rw [q] <;> rfl
  · obtain ⟨t, ht, hq⟩ := hbody cdv A outer s H vs Q E hg (hr.deeper _) hsp
    have I := inv_start (CX := CX0) (E := E) S hr.hd e0 (len _ _ _ _ hsp) r x
    refine wpAny_mono (ht.nox.run [] s1 (start N vs) H _ I hq) (fun fl s' hs => ?_) fun e s' hs => hs
    cases fl with
    | ret u =>
      obtain ⟨v, σ', H', J, rv, q⟩ := hs
      exact ⟨v, H', J.os, J.bare, J.base, J.hok, rv, q⟩
    | next =>
      obtain ⟨σ', H', J, q⟩ := hs
      exact ⟨.non, H', J.os, J.bare, J.base, J.hok, rfl, q⟩
    | brk => obtain ⟨_, _, _, q⟩ := hs; exact q.elim
    | cont => obtain ⟨_, _, _, q⟩ := hs; exact q.elim
/-- the promise, taken at the call that the statement makes -/
theorem at_call {k : Nat} {fa a : Addr} {fd : FuncData} {x : Str} {sp : Sp} {s : Shared} {H : Hp} {mb : Str → Option Value} {vs : List Value} (KX : K.In s.heap) (hns : s.heap.Ns mainGlobals mg) (hb : s.heap.Ns builtinsNs mb) (hbb : ∀ x : Str, x ≠ "__name__" → mb x = bootBuiltins x) (hlim : s.heap.NoLimit) (hg : s.gens = #[])
    (ha : s.heap.get? a = some { cls := .type "list", data := .seq vs.toArray }) (hr : Room k callerA) (F : ∀ base : Heap, K.In base → base.Ns mainGlobals mg → FnG P w K mg base k fa fd [x] sp) (hbind : ∀ (s : Shared) (u : Value), BindsTo s fd ⟨[u], []⟩ [(x, u)])
    (hO : ∀ b, H b = none ∨ (b = a ∧ ∃ o xs, H b = some (.frz o (.lst xs)))) (hok : HOk P w H s.heap) (hK : H a ≠ none → K.lookup a = none) (hsp : sp [.ref a] H (fun v _ => v = .bl true) fun _ _ _ => False) :
    codeAny (model P w) callerA (.call (.ref fa) ⟨[.ref a], []⟩) (fun r s' => r = .ok (.ret (.bool true)) ∧ OldK s.heap s'.heap ∧ s'.os = s.os ∧ AllBare s'.gens) s := by
  have un : ∀ {b : Addr}, b ≠ a → H b = none := fun {b} h => (hO b).resolve_right fun z => h z.1
  have ns : ∀ {b : Addr} {m : Str → Option Value}, s.heap.Ns b m → (hidT s.heap H).Ns b m := fun {b m} ⟨o, es, ep, e, d, r⟩ => by
    refine ⟨o, es, ep, hidT_get e (un fun z => ?_), d, r⟩
    subst z
    rw [ha] at e
    cases e
    exact absurd (show Data.seq vs.toArray _ = Data.dict es ep from d) (by simp)
  have kin : K.In (hidT s.heap H) := fun b o e => by
    refine hidT_get (KX b o e) ?_
    by_cases z : b = a
    · subst z
      rcases hO b with y | ⟨_, o, xs, y⟩
      · exact y
      · have := hK (by rw [y]; simp)
        rw [this] at e; cases e
    · exact un z
  have md : Mod K mg (hidT s.heap H) := ⟨kin, ns hns, ⟨mb, ns hb, hbb⟩, by obtain ⟨mc, h1, h2⟩ := hlim; exact ⟨mc, ns h1, h2⟩⟩
  have e0 : Env0 P w K mg (hidT s.heap H) callerA [] s H := ⟨rfl, md, fun b o e => of_hidT e, Nat.le_of_eq (hidT_size _ _), trivial, fun b hb => absurd (show b ∈ ([] : List Addr) from hb) (by simp), hok, .of_eq hg⟩
  refine codeAny_mono ((F _ kin (ns hns)).run callerA [] s H [.ref a] [.ref a] _ _ rfl hr e0 (hbind s (.ref a)) (.cons rfl .nil) hsp) fun r s' h => ?_
  cases r with
  | error e => exact h.elim
  | ok fl =>
    cases fl with
    | ret u =>
      obtain ⟨v, H', os, bare, ko, hok', r', q⟩ := h
      cases (show v = .bl true from q)
      cases (show u = Value.bool true from r')
      refine ⟨rfl, OldK.of_keep fun b o e => ?_, os, bare⟩
      rcases hO b with z | ⟨_, ob, xs, z⟩
      · exact ko.keep b o e z (fun y => by cases y) (by simp)
      · obtain ⟨e1, _⟩ := hok b _ z
        obtain ⟨e2, _⟩ := hok' b _ (ko.frzs b ob _ z)
        rw [e] at e1
        cases e1
        exact e2
    | next => exact h.elim
    | brk => exact h.elim
    | cont => exact h.elim
end
theorem walkG {l : PySem.W.OpenLaw} {n k : Nat} {q : Program} {loose : List Str} {XP : (Str → Option Value) → Heap → Prop} {YP : World → Heap → Prop} {d : DefRec} {K : Params → PySem.W.Frag} {sp : World → Sp} {x : Str}
    (hn : l.most = some n) (hn2 : n ≤ sizeLine) (hdf : d.params.defaults = []) (hr : Room k callerA)
    (hY : ∀ (w : World) (h : Heap), YP w h → (K w.params).In h)
    (F : ∀ (w : World) (mg : Str → Option Value) (fa : Addr) (h : Heap), (K w.params).In h → h.Ns mainGlobals mg → mg d.name = some (.ref fa) →
      ∃ fd : FuncData, (∀ (s : Shared) (u : Value), BindsTo s fd ⟨[u], []⟩ [(x, u)]) ∧ ∀ base : Heap, (K w.params).In base → base.Ns mainGlobals mg → FnG l.prog w (K w.params) mg base k fa fd [x] (sp w))
    (hsp : ∀ (w : World) (H : Hp) (a : Addr) (ns : List Int), ns.length ≤ n → SqL (K w.params) H a (ns.map V.int) → sp w [.ref a] H (fun v _ => v = .bl true) fun _ _ _ => False) :
    PySem.W.WalkO q loose XP YP l.row.toRowW d [] (fun f vs => PySem.call f vs) := by
  refine Att.attach_call hn hdf fun w s₀ s mg mb fa o pm cd doc a vs ns G Y ho hd hcd hmg ha hi hl hg => ?_
  obtain ⟨fd, hb, hF⟩ := F w mg fa _ (hY w _ Y) G.T.g hmg
  have rv := vals_ints hi
  have hl2 : ns.length ≤ sizeLine := Nat.le_trans hl hn2
  have go := fun H h1 h2 h3 h4 => at_call (P := l.prog) (w := w) (K := K w.params) (H := H) (hY w _ Y) G.T.g G.T.b G.T.builtins G.T.nolimit hg ha hr hF hb h1 h2 h3 (hsp w H a ns hl h4)
  by_cases hk : (K w.params).lookup a = none
  · refine go (fun b => if b = a then some (.frz { cls := .type "list", data := .seq vs.toArray } (.lst (ns.map V.int))) else none) (fun b => ?_) (fun b u z => ?_) (fun _ => hk) (.inl (.inr ⟨_, if_pos rfl⟩))
    · by_cases e : b = a
      · exact .inr ⟨e, _, _, if_pos e⟩
      · exact .inl (if_neg e)
    · by_cases e : b = a
      · cases (if_pos e).symm.trans z
        subst e
        exact ⟨ha, by rw [List.length_map]; exact hl2, vs, _, rv, ha⟩
      · cases (if_neg e).symm.trans z
  · obtain ⟨o, e⟩ := Option.ne_none_iff_exists'.mp hk
    have e2 := hY w _ Y a o e
    rw [ha] at e2
    cases e2
    refine go (fun _ => none) (fun b => .inl rfl) (fun b u z => by cases (show (none : Option HO) = some u from z)) (fun z => absurd rfl z) (.inr ⟨_, vs.toArray, _, e, rfl, rfl, rfl, by rw [List.size_toArray, hi.length]; exact hl2, by simpa using rv⟩)
end HV
/-! the words of a walk: hs one step, hr as many as go, hw the slots behind a wipe -/
local macro_rules | `(tactic| fail "h1") => `(tactic| with_reducible first
  | refine HX.seq_ ?_ | refine HX.asg_ ?_ | refine HX.op_ ?_ | refine HX.varS_ ?_ | refine HX.var0_ ?_ | refine HX.c_ ?_ | refine HX.gn0_ ?_ | refine HX.gnS_ ?_
  | refine HX.cons_ ?_ | refine HX.nil_ ?_ | refine HX.call_ ?_ | refine HX.cb_ ?_ | refine HX.ifS_ ?_ | refine HX.next_ ?_ | refine HX.ret_ ?_ | refine HX.drop_ ?_
  | refine HX.test_ ?_ | refine HX.b_ ?_ | refine HX.not_ ?_ | refine HX.and_ ?_ | refine HX.or_ ?_ | refine HX.notV_ ?_ | refine HX.andV_ ?_ | refine HX.orV_ ?_ | refine HX.if_ ?_
  | refine HX.i0_ ?_ | refine HX.add_int_ ?_ | refine HX.eq_int_ ?_ | refine HX.ne_int_ ?_ | refine HX.eq_bl_ ?_ | refine HX.ne_bl_ ?_ | refine HX.eq_str_ ?_ | refine HX.ne_str_ ?_
  | refine HX.un_ ?_ | refine HX.u_ ?_ | refine HX.tup_ ?_ | refine HX.lst_ ?_ | refine HX.ebl_ ?_ | refine HX.eint_ ?_ | refine HX.e1int_ ?_ | refine HX.e2int_ ?_
  | refine HX.isi_int_int ?_ | refine HX.isi_int_bool ?_ | refine HX.isi_bl_bool ?_ | refine HX.isi_bl_int ?_ | refine HX.int_int_ ?_ | refine HX.int_bl_ ?_
  | refine HX.par_ ?_ | refine HX.par3_ ?_ | refine HX.e2_ ?_ | refine HX.e3_ ?_ | refine HX.gcons_ ?_ | refine HX.gnil_ ?_ | refine HX.gsub_ ?_ | refine HX.enon_ ?_
  | refine HX.sl_ ?_ | refine HX.nopart_ ?_ | refine HX.part_ ?_ | refine HX.itup_ ?_ | refine HX.ilst_ ?_ | refine HX.irng1_ ?_ | refine HX.irng2_ ?_
  | refine HX.abs_ ?_ | refine HX.max2_ ?_ | refine HX.min2_ ?_ | refine HX.isN0_ ?_ | refine HX.isNi_ ?_ | refine HX.isNr_ ?_ | refine HX.isNs_ ?_ | refine HX.notN0_ ?_ | refine HX.notNi_ ?_ | refine HX.notNr_ ?_ | refine HX.notNs_ ?_
  | refine HX.for_ ?_ | refine HX.lc_ ?_ | refine HX.brk_ ?_ | refine HX.cont_ ?_ | refine HX.retN_ ?_ | refine HX.yes_ ?_)
local macro_rules | `(tactic| fail "h2") => `(tactic| first
  | ((with_reducible refine HX.iteT_ ?e ?_); (case e => (with_reducible rfl)))
  | ((with_reducible refine HX.iteF_ ?e ?_); (case e => (with_reducible rfl)))
  | ((with_reducible refine HX.iteT_ ?e ?_); (case e => first | rfl | (refine decide_eq_true ?_; first | assumption | omega)))
  | ((with_reducible refine HX.iteF_ ?e ?_); (case e => first | rfl | (refine decide_eq_false ?_; first | assumption | omega))))
local macro_rules | `(tactic| fail "h3") => `(tactic| first
  | ((with_reducible refine HX.i_ ?c ?_); (case c => first | (show (0 : Int) < _; omega) | (show HX.CMulU _ _; first | (refine HX.CMulU.l ?_; constructor <;> omega) | (refine HX.CMulU.r ?_; constructor <;> omega)) | (show L2.CDiv _ _; constructor <;> omega) | (show L2.CPow _ _; refine ⟨?_, ?_, ?_⟩ <;> omega)))
  | ((with_reducible refine HX.mod_ ?c ?_); (case c => omega))
  | ((with_reducible refine HX.sz_ ?c ?_); (case c => rfl)))
local macro_rules | `(tactic| fail "hu") => `(tactic| fail)
local macro_rules | `(tactic| fail "hs") => `(tactic| first | fail "h1" | fail "h3" | fail "h2" | fail "hu")
local macro_rules | `(tactic| fail "hr") => `(tactic| repeat (fail "hs"))
local macro_rules | `(tactic| fail "hw") => `(tactic| simp only [L2.wipe, List.map_cons, List.map_nil, List.set_cons_zero, List.set_cons_succ])
/-! the words of a walk on data: ds one step, dr as many as go, dn: what was stored is written out -/
local macro_rules | `(tactic| fail "dn") => `(tactic| dsimp only [HD.put, HD.frz, HD.frz1, HD.unset, HD.fin, HD.I.val, HD.fv, List.map, List.set_cons_zero, List.set_cons_succ, List.getElem?_cons_zero, List.getElem?_cons_succ, List.cons_append, List.nil_append])
local macro_rules | `(tactic| fail "gE") => `(tactic| (with_reducible show HD.GE _ _ _ _ _ _); first
  | ((with_reducible refine' HD.varV_ ?e ?_); (case e => rfl))
  | (with_reducible first | refine HD.cint_ ?_ | refine HD.op_ ?_ | refine HD.call_ ?_ | refine HQ.sortSet_ ?_ | refine HD.cb_ ?_ | refine HD.cstr_ ?_ | refine HD.fld_ ?_ | refine HD.tup_ ?_ | refine HD.lst_ ?_ | refine HD.if_ ?_ | refine HD.bm_ ?_ | refine HD.sl_ ?_ | refine HD.cbl_ ?_ | refine HD.cnon_ ?_ | refine HD.un_ ?_ | refine HD.andV_ ?_ | refine HD.orV_ ?_ | refine HD.notV_ ?_ | refine HD.chain_ ?_ | refine HD.ch_ ?_ | refine HD.cty_ ?_ | refine HD.cglo_ ?_ | refine HD.bm0_ ?_ | refine HD.rev_ ?_ | refine HD.cls_ ?_ | refine HD.name_ ?_ | refine HD.make_ ?_ | refine HD.lc_ ?_)
  | ((with_reducible refine' HD.varO_ ?e ?_); (case e => rfl))
  | ((with_reducible refine' HD.varM_ ?e ?_); (case e => rfl)))
local macro_rules | `(tactic| fail "gS") => `(tactic| (with_reducible show HD.GS _ _ _ _ _ _); first
  | (with_reducible first | refine HD.seq_ ?_ | refine HD.asgT_ ?_ | refine HD.asg_ ?_ | refine HD.ret_ ?_ | refine HD.ifS_ ?_ | refine HD.next_ ?_ | refine HD.drop_ ?_ | refine HD.retN_ ?_ | refine HD.brk_ ?_ | refine HD.cont_ ?_ | refine HD.par_ ?_ | refine HD.par3_ ?_ | refine HD.setM_ ?_ | refine HD.for_ ?_))
local macro_rules | `(tactic| fail "gA") => `(tactic| (with_reducible show HD.GA _ _ _ _ _ _); (with_reducible first | refine HD.cons_ ?_ | (refine HD.nil_ ?_; try fail "dn")))
local macro_rules | `(tactic| fail "gT") => `(tactic| (with_reducible show HD.GT _ _ _ _ _ _); (with_reducible first | refine HD.test_ ?_ | refine HD.and_ ?_ | refine HD.or_ ?_ | refine HD.not_ ?_ | refine HD.b_ ?_ | refine HD.yes_ ?_ | refine HD.ch2_ ?_))
local macro_rules | `(tactic| fail "gO") => `(tactic| (with_reducible show HD.GO _ _ _ _ _ _ _ _); first
  | (with_reducible first | refine HD.iInt_ ?_ | refine HD.addI_ ?_ | refine HD.iBl_ ?_ | refine HD.eqI_ ?_ | refine HD.neI_ ?_ | refine HD.eqS_ ?_ | refine HD.neS_ ?_ | refine HD.isN_ ?_ | refine HD.notN_ ?_ | refine HD.eqB_ ?_ | refine HD.neB_ ?_ | refine HD.isB_ ?_ | refine HD.notB_ ?_)
  | ((with_reducible refine' HD.ix_ ?e ?i ?_); (case e => rfl); (case i => rfl))
  | ((with_reducible refine HD.mod_ ?c ?_); (case c => omega))
  | ((with_reducible refine HD.iC_ ?c ?_); (case c => first | (show (0 : Int) < _; omega) | (show HX.CMulU _ _; first | (refine HX.CMulU.l ?_; constructor <;> omega) | (refine HX.CMulU.r ?_; constructor <;> omega)) | (show L2.CDiv _ _; constructor <;> omega) | (show L2.CPow _ _; refine ⟨?_, ?_, ?_⟩ <;> omega)))
  | fail "uO")
local macro_rules | `(tactic| fail "gB") => `(tactic| (with_reducible show HD.GB _ _ _ _ _ _ _); first
  | ((with_reducible refine' HD.len_ ?e ?_); (case e => rfl); (try fail "dn"))
  | ((with_reducible refine HD.isiInt_ ?e ?_); (case e => first | rfl | assumption); (try fail "dn"))
  | ((with_reducible refine HD.isiBool_ ?e ?_); (case e => first | rfl | assumption); (try fail "dn"))
  | ((with_reducible refine HD.isiStr_ ?e ?_); (case e => first | rfl | assumption); (try fail "dn"))
  | ((with_reducible refine HD.isiList_ ?e ?_); (case e => first | rfl | assumption); (try fail "dn"))
  | ((with_reducible refine HD.isiTup_ ?e ?_); (case e => first | rfl | assumption); (try fail "dn"))
  | (with_reducible first | refine HD.intI_ ?_ | refine HD.intB_ ?_ | refine HD.abs_ ?_ | refine HD.boolB_ ?_ | refine HD.max2_ ?_ | refine HD.min2_ ?_)
  | ((with_reducible refine' HD.isiO_ ?e ?p ?k ?_); (case e => rfl); (case p => fail "fpc"); (case k => fail "fki"))
  | ((with_reducible refine' HD.isiBO_ ?e ?k ?_); (case e => rfl); (case k => fail "fki"))
  | ((with_reducible refine' HD.isiOB_ ?e ?p ?k ?_); (case e => rfl); (case p => fail "fpc"); (case k => fail "fki"))
  | ((with_reducible refine HD.tupleOfT_ ?_))
  | ((with_reducible refine' HD.tupleOfL_ ?e ?_); (case e => rfl))
  | ((with_reducible refine' HD.listOf_ ?e ?_); (case e => rfl))
  | fail "uB")
local macro_rules | `(tactic| fail "gG") => `(tactic| (with_reducible show HD.GG _ _ _ _ _ _ _); first
  | ((with_reducible refine HD.gname_ ?c ?i ?_); (case c => rfl); (case i => rfl); (try fail "dn"))
  | ((with_reducible refine HD.gtup_ ?l ?_); (case l => rfl); (try fail "dn"))
  | ((with_reducible refine' HD.gunl_ ?e ?l ?_); (case e => rfl); (case l => rfl); (try fail "dn"))
  | (with_reducible refine HD.gsub_ ?_))
local macro_rules | `(tactic| fail "gW") => `(tactic| (with_reducible show HD.GW _ _ _ _ _ _ _ _); first
  | ((with_reducible refine HD.wname_ ?c ?i ?o ?_); (case c => rfl); (case i => rfl); (case o => rfl); (try fail "dn"))
  | ((with_reducible refine HD.wnameO_ ?c ?i ?o ?_); (case c => rfl); (case i => rfl); (case o => rfl); (try fail "dn"))
  | ((with_reducible refine HD.wtup_ ?l ?_); (case l => rfl); (try fail "dn")))
local macro_rules | `(tactic| fail "gL") => `(tactic| (with_reducible show HD.GL _ _ _ _ _ _ _ _ _); first
  | ((with_reducible refine' HD.slL_ ?e ?_); (case e => rfl)) | (with_reducible refine HD.slT_ ?_) | fail "uL")
local macro_rules | `(tactic| fail "gI") => `(tactic| (with_reducible show HD.GI _ _ _ _ _ _); (with_reducible first | refine HD.ilst_ ?_ | refine HD.itup_ ?_ | refine HD.irng1_ ?_ | refine HD.irng2_ ?_))
local macro_rules | `(tactic| fail "gM") => `(tactic| (with_reducible show HD.GM _ _ _ _ _ _ _ _); first
  | ((with_reducible refine' HD.append_ ?c ?i ?l ?_); (case c => rfl); (case i => rfl); (case l => rfl); (try fail "dn"))
  | fail "uM")
local macro_rules | `(tactic| fail "uM") => `(tactic| fail)
local macro_rules | `(tactic| fail "gR") => `(tactic| with_reducible first
  | refine HD.gnil_ ?_ | refine HD.gcons_ ?_ | refine HD.wnil_ ?_ | refine HD.wcons_ ?_ | refine HD.u_ ?_ | refine HD.nopart_ ?_ | refine HD.part_ ?_
  | refine HD.chC_ ?_ | refine HD.chC2_ ?_ | refine HD.chL_ ?_ | refine HD.chL2_ ?_ | refine HD.forC_ ?_ | refine HD.forN_ ?_ | refine HD.cpC_ ?_ | refine HD.cpN_ ?_)
local macro_rules | `(tactic| fail "gP") => `(tactic| first
  | (with_reducible first | refine HD.exbl_ ?_ | refine HD.exint_ ?_ | refine HD.exv_ ?_ | refine HD.ex2_ ?_ | refine HD.ex3_ ?_ | refine HD.ex1int_ ?_ | refine HD.ex2int_ ?_ | refine HD.extup_ ?_ | refine HD.true_ ?_ | refine HD.exlstD_ ?_)
  | ((with_reducible refine HX.iteT_ ?e ?_); (case e => (with_reducible rfl)))
  | ((with_reducible refine HX.iteF_ ?e ?_); (case e => (with_reducible rfl)))
  | ((with_reducible refine HX.iteT_ ?e ?_); (case e => first | rfl | (refine decide_eq_true ?_; first | assumption | rfl | omega)))
  | ((with_reducible refine HX.iteF_ ?e ?_); (case e => first | rfl | (refine decide_eq_false ?_; first | assumption | omega)))
  | ((with_reducible refine HX.iteF_ ?e ?_); (case e => ((with_reducible refine HU.nd_ ?_); first | assumption | omega)))
  | ((with_reducible refine HX.iteT_ ?e ?_); (case e => ((with_reducible refine HU.nt_ ?_); first | assumption | omega)))
  | ((with_reducible refine HD.leneq_ ?e ?_); (case e => rfl); (try fail "dn"))
  | ((with_reducible refine HD.ble_ ?e ?_); (case e => rfl); (try fail "dn"))
  | ((with_reducible refine HD.cle_ ?e ?_); (case e => rfl); (try fail "dn"))
  | ((with_reducible refine HD.rngB_ ?e ?_); (case e => constructor <;> omega))
  | ((with_reducible refine HD.rngC_ ?e ?_); (case e => refine ⟨?_, ?_, ?_, ?_⟩ <;> omega))
  | ((with_reducible refine HD.exty_ ?e ?_); (case e => rfl); (try fail "dn"))
  | ((with_reducible refine' HD.exlst_ ?e ?_); (case e => rfl); (try fail "dn"))
  | ((with_reducible refine' HD.exfld_ ?e ?a ?b ?l ?_); (case e => rfl); (case a => fail "fcl"); (case b => fail "fna"); (case l => first | rfl | assumption))
  | ((with_reducible refine' HD.exsetM_ ?e1 ?e2 ?e3 ?h1 ?h2 ?e4 ?_); (case e1 => rfl); (case e2 => rfl); (case e3 => rfl); (case h1 => fail "fcl"); (case h2 => fail "fna"); (case e4 => rfl); (try fail "dn")))
local macro_rules | `(tactic| fail "du") => `(tactic| fail)
local macro_rules | `(tactic| fail "uO") => `(tactic| fail)
local macro_rules | `(tactic| fail "uB") => `(tactic| fail)
local macro_rules | `(tactic| fail "uL") => `(tactic| fail)
local macro_rules | `(tactic| fail "fcl") => `(tactic| fail)
local macro_rules | `(tactic| fail "fna") => `(tactic| fail)
local macro_rules | `(tactic| fail "fpc") => `(tactic| fail)
local macro_rules | `(tactic| fail "fki") => `(tactic| fail)
local macro_rules | `(tactic| fail "fhc") => `(tactic| fail)
local macro_rules | `(tactic| fail "ds") => `(tactic| first | fail "gE" | fail "gA" | fail "gO" | fail "gS" | fail "gT" | fail "gG" | fail "gB" | fail "gR" | fail "gP" | fail "gW" | fail "gM" | fail "gI" | fail "gL" | fail "du" | fail "dn")
local macro_rules | `(tactic| fail "rg") => `(tactic| (first | rw [HD.rngT1] | rw [HD.rngT2] | rw [HD.rngT3] | rw [HD.rngT4] | rw [HD.rngT5] | rw [HD.rngT6]))
local macro_rules | `(tactic| fail "dr") => `(tactic| repeat (fail "ds"))
namespace D23
open PySem PySem.Spec PyProof.Rows L2 HX
def topS (i : Nat) : Stmt := PySem.Challenge.pw_fourthlike_k23_rows_of_numbers_by_one_po.main.body.getD i (.Pass ⟨0, 0, 0, 0⟩)
abbrev s_fixed : Stmt := (topS 1)
abbrev n_fixed : List Str := ["value", "part"]
theorem sc_fixed : FnScope n_fixed ["value"] (defScope s_fixed) := ⟨rfl, rfl, rfl, by decide +kernel, rfl, by decide +kernel, by decide +kernel⟩
abbrev s_Paper_init : Stmt := (inClass (topS 2) 0)
abbrev n_Paper_init : List Str := ["self", "word", "parts"]
theorem sc_Paper_init : FnScope n_Paper_init ["self", "word", "parts"] (defScope s_Paper_init) := ⟨rfl, rfl, rfl, by decide +kernel, rfl, by decide +kernel, by decide +kernel⟩
abbrev s_Paper_bool : Stmt := (inClass (topS 2) 1)
abbrev n_Paper_bool : List Str := ["self"]
theorem sc_Paper_bool : FnScope n_Paper_bool ["self"] (defScope s_Paper_bool) := ⟨rfl, rfl, rfl, by decide +kernel, rfl, by decide +kernel, by decide +kernel⟩
abbrev s_Paper_eq : Stmt := (inClass (topS 2) 2)
abbrev n_Paper_eq : List Str := ["self", "other"]
theorem sc_Paper_eq : FnScope n_Paper_eq ["self", "other"] (defScope s_Paper_eq) := ⟨rfl, rfl, rfl, by decide +kernel, rfl, by decide +kernel, by decide +kernel⟩
abbrev s_Denial_bool : Stmt := (inClass (topS 3) 0)
abbrev n_Denial_bool : List Str := ["self"]
theorem sc_Denial_bool : FnScope n_Denial_bool ["self"] (defScope s_Denial_bool) := ⟨rfl, rfl, rfl, by decide +kernel, rfl, by decide +kernel, by decide +kernel⟩
abbrev s_is_integer : Stmt := (topS 5)
abbrev n_is_integer : List Str := ["value"]
theorem sc_is_integer : FnScope n_is_integer ["value"] (defScope s_is_integer) := ⟨rfl, rfl, rfl, by decide +kernel, rfl, by decide +kernel, by decide +kernel⟩
abbrev s_is_within : Stmt := (topS 6)
abbrev n_is_within : List Str := ["value", "least", "most"]
theorem sc_is_within : FnScope n_is_within ["value", "least", "most"] (defScope s_is_within) := ⟨rfl, rfl, rfl, by decide +kernel, rfl, by decide +kernel, by decide +kernel⟩
abbrev s_is_row : Stmt := (topS 7)
abbrev n_is_row : List Str := ["value", "part"]
theorem sc_is_row : FnScope n_is_row ["value"] (defScope s_is_row) := ⟨rfl, rfl, rfl, by decide +kernel, rfl, by decide +kernel, by decide +kernel⟩
abbrev s_Whole_init : Stmt := (inClass (topS 14) 0)
abbrev n_Whole_init : List Str := ["self", "number", "__class__"]
theorem sc_Whole_init : NdefX.NScope n_Whole_init ["self", "number"] ["__class__"] (defScope s_Whole_init) := NdefX.nscope_by (by decide +kernel)
abbrev s_NoWhole_init : Stmt := (inClass (topS 15) 0)
abbrev n_NoWhole_init : List Str := ["self", "low", "__class__"]
theorem sc_NoWhole_init : NdefX.NScope n_NoWhole_init ["self", "low"] ["__class__"] (defScope s_NoWhole_init) := NdefX.nscope_by (by decide +kernel)
abbrev s_need_number : Stmt := (topS 16)
abbrev n_need_number : List Str := ["value", "part", "least", "most"]
theorem sc_need_number : FnScope n_need_number ["value", "part", "least", "most"] (defScope s_need_number) := ⟨rfl, rfl, rfl, by decide +kernel, rfl, by decide +kernel, by decide +kernel⟩
abbrev s_need_power : Stmt := (topS 17)
abbrev n_need_power : List Str := ["power"]
theorem sc_need_power : FnScope n_need_power ["power"] (defScope s_need_power) := ⟨rfl, rfl, rfl, by decide +kernel, rfl, by decide +kernel, by decide +kernel⟩
abbrev s_raised : Stmt := (topS 18)
abbrev n_raised : List Str := ["number", "many", "found", "_"]
theorem sc_raised : FnScope n_raised ["number", "many"] (defScope s_raised) := ⟨rfl, rfl, rfl, by decide +kernel, rfl, by decide +kernel, by decide +kernel⟩
abbrev s_lifted : Stmt := (topS 19)
abbrev n_lifted : List Str := ["a", "b", "c", "d", "power", "number"]
theorem sc_lifted : FnScope n_lifted ["a", "b", "c", "d", "power"] (defScope s_lifted) := ⟨rfl, rfl, rfl, by decide +kernel, rfl, by decide +kernel, by decide +kernel⟩
abbrev s_sum_at : Stmt := (topS 20)
abbrev n_sum_at : List Str := ["a", "b", "c", "d", "power", "first", "second", "third", "last"]
theorem sc_sum_at : FnScope n_sum_at ["a", "b", "c", "d", "power"] (defScope s_sum_at) := ⟨rfl, rfl, rfl, by decide +kernel, rfl, by decide +kernel, by decide +kernel⟩
abbrev s_holds_by : Stmt := (topS 21)
abbrev n_holds_by : List Str := ["a", "b", "c", "d", "power"]
theorem sc_holds_by : FnScope n_holds_by ["a", "b", "c", "d", "power"] (defScope s_holds_by) := ⟨rfl, rfl, rfl, by decide +kernel, rfl, by decide +kernel, by decide +kernel⟩
abbrev s_wanted : Stmt := (topS 22)
abbrev n_wanted : List Str := ["a", "b", "c", "power", "many"]
theorem sc_wanted : FnScope n_wanted ["a", "b", "c", "power"] (defScope s_wanted) := ⟨rfl, rfl, rfl, by decide +kernel, rfl, by decide +kernel, by decide +kernel⟩
abbrev s_root_below : Stmt := (topS 23)
abbrev n_root_below : List Str := ["rest", "part", "many", "high", "low", "middle"]
theorem sc_root_below : FnScope n_root_below ["rest", "part", "many", "high"] (defScope s_root_below) := ⟨rfl, rfl, rfl, by decide +kernel, rfl, by decide +kernel, by decide +kernel⟩
abbrev s_fourth_found : Stmt := (topS 24)
abbrev n_fourth_found : List Str := ["a", "b", "c", "power", "rest", "part", "many", "low"]
theorem sc_fourth_found : FnScope n_fourth_found ["a", "b", "c", "power"] (defScope s_fourth_found) := ⟨rfl, rfl, rfl, by decide +kernel, rfl, by decide +kernel, by decide +kernel⟩
abbrev s_ByPower_init : Stmt := (inClass (topS 26) 0)
abbrev n_ByPower_init : List Str := ["self", "power", "__class__"]
theorem sc_ByPower_init : NdefX.NScope n_ByPower_init ["self", "power"] ["__class__"] (defScope s_ByPower_init) := NdefX.nscope_by (by decide +kernel)
abbrev s_Between_init : Stmt := (inClass (topS 27) 0)
abbrev n_Between_init : List Str := ["self", "low", "__class__"]
theorem sc_Between_init : NdefX.NScope n_Between_init ["self", "low"] ["__class__"] (defScope s_Between_init) := NdefX.nscope_by (by decide +kernel)
abbrev s_need_growing : Stmt := (topS 28)
abbrev n_need_growing : List Str := ["a", "b", "c", "d"]
theorem sc_need_growing : FnScope n_need_growing ["a", "b", "c", "d"] (defScope s_need_growing) := ⟨rfl, rfl, rfl, by decide +kernel, rfl, by decide +kernel, by decide +kernel⟩
abbrev s_least_step : Stmt := (topS 29)
abbrev n_least_step : List Str := ["a", "b", "c", "d", "side", "low", "high", "middle"]
theorem sc_least_step : FnScope n_least_step ["a", "b", "c", "d", "side"] (defScope s_least_step) := ⟨rfl, rfl, rfl, by decide +kernel, rfl, by decide +kernel, by decide +kernel⟩
abbrev s_power_of : Stmt := (topS 30)
abbrev n_power_of : List Str := ["a", "b", "c", "d", "side", "steps"]
theorem sc_power_of : FnScope n_power_of ["a", "b", "c", "d"] (defScope s_power_of) := ⟨rfl, rfl, rfl, by decide +kernel, rfl, by decide +kernel, by decide +kernel⟩
abbrev s_Uneven_init : Stmt := (inClass (topS 33) 0)
abbrev n_Uneven_init : List Str := ["self", "step", "__class__"]
theorem sc_Uneven_init : NdefX.NScope n_Uneven_init ["self", "step"] ["__class__"] (defScope s_Uneven_init) := NdefX.nscope_by (by decide +kernel)
abbrev s_numbers_by : Stmt := (topS 34)
abbrev n_numbers_by : List Str := ["first", "second", "many", "power", "row", "found"]
theorem sc_numbers_by : FnScope n_numbers_by ["first", "second", "many", "power"] (defScope s_numbers_by) := ⟨rfl, rfl, rfl, by decide +kernel, rfl, by decide +kernel, by decide +kernel⟩
abbrev s_need_numbers : Stmt := (topS 35)
abbrev n_need_numbers : List Str := ["numbers", "one", "other"]
theorem sc_need_numbers : FnScope n_need_numbers ["numbers"] (defScope s_need_numbers) := ⟨rfl, rfl, rfl, by decide +kernel, rfl, by decide +kernel, by decide +kernel⟩
abbrev s_step_power : Stmt := (topS 36)
abbrev n_step_power : List Str := ["numbers"]
theorem sc_step_power : FnScope n_step_power ["numbers"] (defScope s_step_power) := ⟨rfl, rfl, rfl, by decide +kernel, rfl, by decide +kernel, by decide +kernel⟩
abbrev s_is_step_by : Stmt := (topS 37)
abbrev n_is_step_by : List Str := ["numbers", "step", "power", "one", "middle", "other"]
theorem sc_is_step_by : FnScope n_is_step_by ["numbers", "step", "power"] (defScope s_is_step_by) := ⟨rfl, rfl, rfl, by decide +kernel, rfl, by decide +kernel, by decide +kernel⟩
abbrev s_power_of_row : Stmt := (topS 38)
abbrev n_power_of_row : List Str := ["numbers", "begun", "step"]
theorem sc_power_of_row : FnScope n_power_of_row ["numbers"] (defScope s_power_of_row) := ⟨rfl, rfl, rfl, by decide +kernel, rfl, by decide +kernel, by decide +kernel⟩
abbrev s_shows_power_of_row : Stmt := (topS 40)
abbrev n_shows_power_of_row : List Str := ["numbers", "value", "last", "step", "begun"]
theorem sc_shows_power_of_row : FnScope n_shows_power_of_row ["numbers", "value"] (defScope s_shows_power_of_row) := ⟨rfl, rfl, rfl, by decide +kernel, rfl, by decide +kernel, by decide +kernel⟩
abbrev s__law_hat : Stmt := (topS 42)
abbrev n__law_hat : List Str := ["script", "cell"]
theorem sc__law_hat : FnScope n__law_hat ["script"] (defScope s__law_hat) := ⟨rfl, rfl, rfl, by decide +kernel, rfl, by decide +kernel, by decide +kernel⟩
abbrev s__law_lot : Stmt := (topS 43)
abbrev n__law_lot : List Str := ["hat", "many", "digit", "at", "cell", "great", "mixed"]
theorem sc__law_lot : FnScope n__law_lot ["hat", "many"] (defScope s__law_lot) := ⟨rfl, rfl, rfl, by decide +kernel, rfl, by decide +kernel, by decide +kernel⟩
abbrev s__law_one : Stmt := (topS 44)
abbrev n__law_one : List Str := ["hat", "some"]
theorem sc__law_one : FnScope n__law_one ["hat", "some"] (defScope s__law_one) := ⟨rfl, rfl, rfl, by decide +kernel, rfl, by decide +kernel, by decide +kernel⟩
abbrev s__law_raised : Stmt := (topS 45)
abbrev n__law_raised : List Str := ["number", "many", "found", "turn"]
theorem sc__law_raised : FnScope n__law_raised ["number", "many"] (defScope s__law_raised) := ⟨rfl, rfl, rfl, by decide +kernel, rfl, by decide +kernel, by decide +kernel⟩
abbrev s__law_wanted : Stmt := (topS 46)
abbrev n__law_wanted : List Str := ["a", "b", "c", "power", "many"]
theorem sc__law_wanted : FnScope n__law_wanted ["a", "b", "c", "power"] (defScope s__law_wanted) := ⟨rfl, rfl, rfl, by decide +kernel, rfl, by decide +kernel, by decide +kernel⟩
abbrev s__law_behind : Stmt := (topS 47)
abbrev n__law_behind : List Str := ["one", "other", "power", "rest", "part", "many", "low", "high", "turn", "middle"]
theorem sc__law_behind : FnScope n__law_behind ["one", "other", "power"] (defScope s__law_behind) := ⟨rfl, rfl, rfl, by decide +kernel, rfl, by decide +kernel, by decide +kernel⟩
abbrev s__law_begun : Stmt := (topS 48)
abbrev n__law_begun : List Str := ["hat", "way", "one", "more", "times", "base", "other", "wide", "whole"]
theorem sc__law_begun : FnScope n__law_begun ["hat"] (defScope s__law_begun) := ⟨rfl, rfl, rfl, by decide +kernel, rfl, by decide +kernel, by decide +kernel⟩
abbrev s__law_gone_on : Stmt := (topS 49)
abbrev n__law_gone_on : List Str := ["first", "second", "many", "power", "row", "turn", "more"]
theorem sc__law_gone_on : FnScope n__law_gone_on ["first", "second", "many", "power"] (defScope s__law_gone_on) := ⟨rfl, rfl, rfl, by decide +kernel, rfl, by decide +kernel, by decide +kernel⟩
abbrev s__law_is_by : Stmt := (topS 50)
abbrev n__law_is_by : List Str := ["numbers", "step", "power", "one", "middle", "other", "rest", "part", "many"]
theorem sc__law_is_by : FnScope n__law_is_by ["numbers", "step", "power"] (defScope s__law_is_by) := ⟨rfl, rfl, rfl, by decide +kernel, rfl, by decide +kernel, by decide +kernel⟩
abbrev s__law_power : Stmt := (topS 51)
abbrev n__law_power : List Str := ["one", "middle", "other", "side", "many", "rest", "part", "times", "left"]
theorem sc__law_power : FnScope n__law_power ["one", "middle", "other"] (defScope s__law_power) := ⟨rfl, rfl, rfl, by decide +kernel, rfl, by decide +kernel, by decide +kernel⟩
abbrev s__law_row : Stmt := (topS 52)
abbrev n__law_row : List Str := ["hat", "first", "second", "power", "number", "row", "turn", "at"]
theorem sc__law_row : FnScope n__law_row ["hat"] (defScope s__law_row) := ⟨rfl, rfl, rfl, by decide +kernel, rfl, by decide +kernel, by decide +kernel⟩
abbrev s__law_due : Stmt := (topS 53)
abbrev n__law_due : List Str := ["row", "power", "step"]
theorem sc__law_due : FnScope n__law_due ["row"] (defScope s__law_due) := ⟨rfl, rfl, rfl, by decide +kernel, rfl, by decide +kernel, by decide +kernel⟩
abbrev s__law_told : Stmt := (topS 54)
abbrev n__law_told : List Str := ["paper"]
theorem sc__law_told : FnScope n__law_told ["paper"] (defScope s__law_told) := ⟨rfl, rfl, rfl, by decide +kernel, rfl, by decide +kernel, by decide +kernel⟩
abbrev s_law : Stmt := (topS 55)
abbrev n_law : List Str := ["script", "hat", "lap", "first", "second", "power", "many", "row", "held", "due", "found", "values", "turn", "value", "is_step", "is_right", "odd"]
theorem sc_law : FnScope n_law ["script"] (defScope s_law) := ⟨rfl, rfl, rfl, by decide +kernel, rfl, by decide +kernel, by decide +kernel⟩
structure Tx (P : Program) (K : PySem.W.Frag) (mg : Str → Option Value) where
  f_fixed : Addr
  fd_fixed : FuncData
  F_fixed : Fun K "fixed" "fixed" s_fixed f_fixed fd_fixed
  g_fixed : mg "fixed" = some (.ref f_fixed)
  b_fixed : Binds K fd_fixed ["value"] []
  f_Paper_init : Addr
  f_Paper_bool : Addr
  fd_Paper_bool : FuncData
  F_Paper_bool : Fun K "__bool__" "Paper.__bool__" s_Paper_bool f_Paper_bool fd_Paper_bool
  b_Paper_bool : Binds K fd_Paper_bool ["self"] []
  f_Paper_eq : Addr
  fd_Paper_eq : FuncData
  F_Paper_eq : Fun K "__eq__" "Paper.__eq__" s_Paper_eq f_Paper_eq fd_Paper_eq
  b_Paper_eq : Binds K fd_Paper_eq ["self", "other"] []
  f_Denial_bool : Addr
  fd_Denial_bool : FuncData
  F_Denial_bool : Fun K "__bool__" "Denial.__bool__" s_Denial_bool f_Denial_bool fd_Denial_bool
  b_Denial_bool : Binds K fd_Denial_bool ["self"] []
  f_is_integer : Addr
  fd_is_integer : FuncData
  F_is_integer : Fun K "is_integer" "is_integer" s_is_integer f_is_integer fd_is_integer
  g_is_integer : mg "is_integer" = some (.ref f_is_integer)
  b_is_integer : Binds K fd_is_integer ["value"] []
  f_is_within : Addr
  fd_is_within : FuncData
  F_is_within : Fun K "is_within" "is_within" s_is_within f_is_within fd_is_within
  g_is_within : mg "is_within" = some (.ref f_is_within)
  b_is_within : Binds K fd_is_within ["value", "least", "most"] []
  f_is_row : Addr
  fd_is_row : FuncData
  F_is_row : Fun K "is_row" "is_row" s_is_row f_is_row fd_is_row
  g_is_row : mg "is_row" = some (.ref f_is_row)
  b_is_row : Binds K fd_is_row ["value"] []
  f_Whole_init : Addr
  f_NoWhole_init : Addr
  f_need_number : Addr
  fd_need_number : FuncData
  F_need_number : Fun K "need_number" "need_number" s_need_number f_need_number fd_need_number
  g_need_number : mg "need_number" = some (.ref f_need_number)
  b_need_number : Binds K fd_need_number ["value", "part", "least", "most"] []
  f_need_power : Addr
  fd_need_power : FuncData
  F_need_power : Fun K "need_power" "need_power" s_need_power f_need_power fd_need_power
  g_need_power : mg "need_power" = some (.ref f_need_power)
  b_need_power : Binds K fd_need_power ["power"] []
  f_raised : Addr
  fd_raised : FuncData
  F_raised : Fun K "raised" "raised" s_raised f_raised fd_raised
  g_raised : mg "raised" = some (.ref f_raised)
  b_raised : Binds K fd_raised ["number", "many"] []
  f_lifted : Addr
  fd_lifted : FuncData
  F_lifted : Fun K "lifted" "lifted" s_lifted f_lifted fd_lifted
  g_lifted : mg "lifted" = some (.ref f_lifted)
  b_lifted : Binds K fd_lifted ["a", "b", "c", "d", "power"] []
  f_sum_at : Addr
  fd_sum_at : FuncData
  F_sum_at : Fun K "sum_at" "sum_at" s_sum_at f_sum_at fd_sum_at
  g_sum_at : mg "sum_at" = some (.ref f_sum_at)
  b_sum_at : Binds K fd_sum_at ["a", "b", "c", "d", "power"] []
  f_holds_by : Addr
  fd_holds_by : FuncData
  F_holds_by : Fun K "holds_by" "holds_by" s_holds_by f_holds_by fd_holds_by
  g_holds_by : mg "holds_by" = some (.ref f_holds_by)
  b_holds_by : Binds K fd_holds_by ["a", "b", "c", "d", "power"] []
  f_wanted : Addr
  fd_wanted : FuncData
  F_wanted : Fun K "wanted" "wanted" s_wanted f_wanted fd_wanted
  g_wanted : mg "wanted" = some (.ref f_wanted)
  b_wanted : Binds K fd_wanted ["a", "b", "c", "power"] []
  f_root_below : Addr
  fd_root_below : FuncData
  F_root_below : Fun K "root_below" "root_below" s_root_below f_root_below fd_root_below
  g_root_below : mg "root_below" = some (.ref f_root_below)
  b_root_below : Binds K fd_root_below ["rest", "part", "many", "high"] []
  f_fourth_found : Addr
  fd_fourth_found : FuncData
  F_fourth_found : Fun K "fourth_found" "fourth_found" s_fourth_found f_fourth_found fd_fourth_found
  g_fourth_found : mg "fourth_found" = some (.ref f_fourth_found)
  b_fourth_found : Binds K fd_fourth_found ["a", "b", "c", "power"] []
  f_ByPower_init : Addr
  f_Between_init : Addr
  f_need_growing : Addr
  fd_need_growing : FuncData
  F_need_growing : Fun K "need_growing" "need_growing" s_need_growing f_need_growing fd_need_growing
  g_need_growing : mg "need_growing" = some (.ref f_need_growing)
  b_need_growing : Binds K fd_need_growing ["a", "b", "c", "d"] []
  f_least_step : Addr
  fd_least_step : FuncData
  F_least_step : Fun K "least_step" "least_step" s_least_step f_least_step fd_least_step
  g_least_step : mg "least_step" = some (.ref f_least_step)
  b_least_step : Binds K fd_least_step ["a", "b", "c", "d", "side"] []
  f_power_of : Addr
  fd_power_of : FuncData
  F_power_of : Fun K "power_of" "power_of" s_power_of f_power_of fd_power_of
  g_power_of : mg "power_of" = some (.ref f_power_of)
  b_power_of : Binds K fd_power_of ["a", "b", "c", "d"] []
  f_Uneven_init : Addr
  f_numbers_by : Addr
  fd_numbers_by : FuncData
  F_numbers_by : Fun K "numbers_by" "numbers_by" s_numbers_by f_numbers_by fd_numbers_by
  g_numbers_by : mg "numbers_by" = some (.ref f_numbers_by)
  b_numbers_by : Binds K fd_numbers_by ["first", "second", "many", "power"] []
  f_need_numbers : Addr
  fd_need_numbers : FuncData
  F_need_numbers : Fun K "need_numbers" "need_numbers" s_need_numbers f_need_numbers fd_need_numbers
  g_need_numbers : mg "need_numbers" = some (.ref f_need_numbers)
  b_need_numbers : Binds K fd_need_numbers ["numbers"] []
  f_step_power : Addr
  fd_step_power : FuncData
  F_step_power : Fun K "step_power" "step_power" s_step_power f_step_power fd_step_power
  g_step_power : mg "step_power" = some (.ref f_step_power)
  b_step_power : Binds K fd_step_power ["numbers"] []
  f_is_step_by : Addr
  fd_is_step_by : FuncData
  F_is_step_by : Fun K "is_step_by" "is_step_by" s_is_step_by f_is_step_by fd_is_step_by
  g_is_step_by : mg "is_step_by" = some (.ref f_is_step_by)
  b_is_step_by : Binds K fd_is_step_by ["numbers", "step", "power"] []
  f_power_of_row : Addr
  fd_power_of_row : FuncData
  F_power_of_row : Fun K "power_of_row" "power_of_row" s_power_of_row f_power_of_row fd_power_of_row
  g_power_of_row : mg "power_of_row" = some (.ref f_power_of_row)
  b_power_of_row : Binds K fd_power_of_row ["numbers"] []
  f_shows_power_of_row : Addr
  fd_shows_power_of_row : FuncData
  F_shows_power_of_row : Fun K "shows_power_of_row" "shows_power_of_row" s_shows_power_of_row f_shows_power_of_row fd_shows_power_of_row
  g_shows_power_of_row : mg "shows_power_of_row" = some (.ref f_shows_power_of_row)
  b_shows_power_of_row : Binds K fd_shows_power_of_row ["numbers", "value"] []
  f__law_hat : Addr
  fd__law_hat : FuncData
  F__law_hat : Fun K "_law_hat" "_law_hat" s__law_hat f__law_hat fd__law_hat
  g__law_hat : mg "_law_hat" = some (.ref f__law_hat)
  b__law_hat : Binds K fd__law_hat ["script"] []
  f__law_lot : Addr
  fd__law_lot : FuncData
  F__law_lot : Fun K "_law_lot" "_law_lot" s__law_lot f__law_lot fd__law_lot
  g__law_lot : mg "_law_lot" = some (.ref f__law_lot)
  b__law_lot : Binds K fd__law_lot ["hat", "many"] []
  f__law_one : Addr
  fd__law_one : FuncData
  F__law_one : Fun K "_law_one" "_law_one" s__law_one f__law_one fd__law_one
  g__law_one : mg "_law_one" = some (.ref f__law_one)
  b__law_one : Binds K fd__law_one ["hat", "some"] []
  f__law_raised : Addr
  fd__law_raised : FuncData
  F__law_raised : Fun K "_law_raised" "_law_raised" s__law_raised f__law_raised fd__law_raised
  g__law_raised : mg "_law_raised" = some (.ref f__law_raised)
  b__law_raised : Binds K fd__law_raised ["number", "many"] []
  f__law_wanted : Addr
  fd__law_wanted : FuncData
  F__law_wanted : Fun K "_law_wanted" "_law_wanted" s__law_wanted f__law_wanted fd__law_wanted
  g__law_wanted : mg "_law_wanted" = some (.ref f__law_wanted)
  b__law_wanted : Binds K fd__law_wanted ["a", "b", "c", "power"] []
  f__law_behind : Addr
  fd__law_behind : FuncData
  F__law_behind : Fun K "_law_behind" "_law_behind" s__law_behind f__law_behind fd__law_behind
  g__law_behind : mg "_law_behind" = some (.ref f__law_behind)
  b__law_behind : Binds K fd__law_behind ["one", "other", "power"] []
  f__law_begun : Addr
  fd__law_begun : FuncData
  F__law_begun : Fun K "_law_begun" "_law_begun" s__law_begun f__law_begun fd__law_begun
  g__law_begun : mg "_law_begun" = some (.ref f__law_begun)
  b__law_begun : Binds K fd__law_begun ["hat"] []
  f__law_gone_on : Addr
  fd__law_gone_on : FuncData
  F__law_gone_on : Fun K "_law_gone_on" "_law_gone_on" s__law_gone_on f__law_gone_on fd__law_gone_on
  g__law_gone_on : mg "_law_gone_on" = some (.ref f__law_gone_on)
  b__law_gone_on : Binds K fd__law_gone_on ["first", "second", "many", "power"] []
  f__law_is_by : Addr
  fd__law_is_by : FuncData
  F__law_is_by : Fun K "_law_is_by" "_law_is_by" s__law_is_by f__law_is_by fd__law_is_by
  g__law_is_by : mg "_law_is_by" = some (.ref f__law_is_by)
  b__law_is_by : Binds K fd__law_is_by ["numbers", "step", "power"] []
  f__law_power : Addr
  fd__law_power : FuncData
  F__law_power : Fun K "_law_power" "_law_power" s__law_power f__law_power fd__law_power
  g__law_power : mg "_law_power" = some (.ref f__law_power)
  b__law_power : Binds K fd__law_power ["one", "middle", "other"] []
  f__law_row : Addr
  fd__law_row : FuncData
  F__law_row : Fun K "_law_row" "_law_row" s__law_row f__law_row fd__law_row
  g__law_row : mg "_law_row" = some (.ref f__law_row)
  b__law_row : Binds K fd__law_row ["hat"] []
  f__law_due : Addr
  fd__law_due : FuncData
  F__law_due : Fun K "_law_due" "_law_due" s__law_due f__law_due fd__law_due
  g__law_due : mg "_law_due" = some (.ref f__law_due)
  b__law_due : Binds K fd__law_due ["row"] []
  f__law_told : Addr
  fd__law_told : FuncData
  F__law_told : Fun K "_law_told" "_law_told" s__law_told f__law_told fd__law_told
  g__law_told : mg "_law_told" = some (.ref f__law_told)
  b__law_told : Binds K fd__law_told ["paper"] []
  f_law : Addr
  fd_law : FuncData
  F_law : Fun K "law" "law" s_law f_law fd_law
  g_law : mg "law" = some (.ref f_law)
  b_law : Binds K fd_law ["script"] []
  C_Paper : Addr
  g_Paper : mg "Paper" = some (.ref C_Paper)
  C_Denial : Addr
  g_Denial : mg "Denial" = some (.ref C_Denial)
  C_Whole : Addr
  g_Whole : mg "Whole" = some (.ref C_Whole)
  C_NoWhole : Addr
  g_NoWhole : mg "NoWhole" = some (.ref C_NoWhole)
  C_ByPower : Addr
  g_ByPower : mg "ByPower" = some (.ref C_ByPower)
  C_Between : Addr
  g_Between : mg "Between" = some (.ref C_Between)
  C_Uneven : Addr
  g_Uneven : mg "Uneven" = some (.ref C_Uneven)
  SF_Paper_init : HC.StarFun K "__init__" "Paper.__init__" s_Paper_init f_Paper_init ["self", "word"] "parts"
  cc_Whole_init : Addr
  ca_Whole_init : Addr
  SD_Whole_init : HS.SupDef P K mg ⟨"__init__", "Whole.__init__", defArgs s_Whole_init, defBody s_Whole_init, defScope s_Whole_init, [("__class__", cc_Whole_init)], ca_Whole_init⟩ f_Whole_init C_Whole cc_Whole_init
  cc_NoWhole_init : Addr
  ca_NoWhole_init : Addr
  SD_NoWhole_init : HS.SupDef P K mg ⟨"__init__", "NoWhole.__init__", defArgs s_NoWhole_init, defBody s_NoWhole_init, defScope s_NoWhole_init, [("__class__", cc_NoWhole_init)], ca_NoWhole_init⟩ f_NoWhole_init C_NoWhole cc_NoWhole_init
  cc_ByPower_init : Addr
  ca_ByPower_init : Addr
  SD_ByPower_init : HS.SupDef P K mg ⟨"__init__", "ByPower.__init__", defArgs s_ByPower_init, defBody s_ByPower_init, defScope s_ByPower_init, [("__class__", cc_ByPower_init)], ca_ByPower_init⟩ f_ByPower_init C_ByPower cc_ByPower_init
  cc_Between_init : Addr
  ca_Between_init : Addr
  SD_Between_init : HS.SupDef P K mg ⟨"__init__", "Between.__init__", defArgs s_Between_init, defBody s_Between_init, defScope s_Between_init, [("__class__", cc_Between_init)], ca_Between_init⟩ f_Between_init C_Between cc_Between_init
  cc_Uneven_init : Addr
  ca_Uneven_init : Addr
  SD_Uneven_init : HS.SupDef P K mg ⟨"__init__", "Uneven.__init__", defArgs s_Uneven_init, defBody s_Uneven_init, defScope s_Uneven_init, [("__class__", cc_Uneven_init)], ca_Uneven_init⟩ f_Uneven_init C_Uneven cc_Uneven_init
  mk_NoWhole : Mk K C_NoWhole f_NoWhole_init
  pc_NoWhole : HC.PC K C_Paper C_NoWhole "NoWhole"
  su_NoWhole_NoWhole : HS.SupCls K C_NoWhole C_NoWhole "__init__" f_Paper_init
  na_NoWhole_low : NoAttr K C_NoWhole "low"
  is_NoWhole_Paper : PySem.W.kitOne K (.ref C_NoWhole) (.ref C_Paper) = some true
  is_NoWhole_NoWhole : PySem.W.kitOne K (.ref C_NoWhole) (.ref C_NoWhole) = some true
  is_NoWhole_Between : PySem.W.kitOne K (.ref C_NoWhole) (.ref C_Between) = some false
  is_NoWhole_ByPower : PySem.W.kitOne K (.ref C_NoWhole) (.ref C_ByPower) = some false
  is_NoWhole_Uneven : PySem.W.kitOne K (.ref C_NoWhole) (.ref C_Uneven) = some false
  io_NoWhole_list : PySem.W.kitOne K (.ref C_NoWhole) (.type "list") = some false
  io_NoWhole_tuple : PySem.W.kitOne K (.ref C_NoWhole) (.type "tuple") = some false
  io_NoWhole_int : PySem.W.kitOne K (.ref C_NoWhole) (.type "int") = some false
  io_NoWhole_bool : PySem.W.kitOne K (.ref C_NoWhole) (.type "bool") = some false
  bc_NoWhole : HB.BoolCls K C_NoWhole f_Denial_bool
  eq_NoWhole_NoWhole : HP.EqCls K C_NoWhole C_NoWhole f_Paper_eq
  eq_NoWhole_Whole : HP.EqCls K C_NoWhole C_Whole f_Paper_eq
  eq_NoWhole_Between : HP.EqCls K C_NoWhole C_Between f_Paper_eq
  eq_NoWhole_ByPower : HP.EqCls K C_NoWhole C_ByPower f_Paper_eq
  eq_NoWhole_Uneven : HP.EqCls K C_NoWhole C_Uneven f_Paper_eq
  eq_NoWhole_Paper : HP.EqCls K C_NoWhole C_Paper f_Paper_eq
  eq_NoWhole_Denial : HP.EqCls K C_NoWhole C_Denial f_Paper_eq
  mk_Whole : Mk K C_Whole f_Whole_init
  pc_Whole : HC.PC K C_Paper C_Whole "Whole"
  su_Whole_Whole : HS.SupCls K C_Whole C_Whole "__init__" f_Paper_init
  na_Whole_number : NoAttr K C_Whole "number"
  is_Whole_Paper : PySem.W.kitOne K (.ref C_Whole) (.ref C_Paper) = some true
  is_Whole_NoWhole : PySem.W.kitOne K (.ref C_Whole) (.ref C_NoWhole) = some false
  is_Whole_Between : PySem.W.kitOne K (.ref C_Whole) (.ref C_Between) = some false
  is_Whole_ByPower : PySem.W.kitOne K (.ref C_Whole) (.ref C_ByPower) = some false
  is_Whole_Uneven : PySem.W.kitOne K (.ref C_Whole) (.ref C_Uneven) = some false
  io_Whole_list : PySem.W.kitOne K (.ref C_Whole) (.type "list") = some false
  io_Whole_tuple : PySem.W.kitOne K (.ref C_Whole) (.type "tuple") = some false
  io_Whole_int : PySem.W.kitOne K (.ref C_Whole) (.type "int") = some false
  io_Whole_bool : PySem.W.kitOne K (.ref C_Whole) (.type "bool") = some false
  bc_Whole : HB.BoolCls K C_Whole f_Paper_bool
  eq_Whole_NoWhole : HP.EqCls K C_Whole C_NoWhole f_Paper_eq
  eq_Whole_Whole : HP.EqCls K C_Whole C_Whole f_Paper_eq
  eq_Whole_Between : HP.EqCls K C_Whole C_Between f_Paper_eq
  eq_Whole_ByPower : HP.EqCls K C_Whole C_ByPower f_Paper_eq
  eq_Whole_Uneven : HP.EqCls K C_Whole C_Uneven f_Paper_eq
  eq_Whole_Paper : HP.EqCls K C_Whole C_Paper f_Paper_eq
  eq_Whole_Denial : HP.EqCls K C_Whole C_Denial f_Paper_eq
  mk_Between : Mk K C_Between f_Between_init
  pc_Between : HC.PC K C_Paper C_Between "Between"
  su_Between_Between : HS.SupCls K C_Between C_Between "__init__" f_Paper_init
  na_Between_low : NoAttr K C_Between "low"
  is_Between_Paper : PySem.W.kitOne K (.ref C_Between) (.ref C_Paper) = some true
  is_Between_NoWhole : PySem.W.kitOne K (.ref C_Between) (.ref C_NoWhole) = some false
  is_Between_Between : PySem.W.kitOne K (.ref C_Between) (.ref C_Between) = some true
  is_Between_ByPower : PySem.W.kitOne K (.ref C_Between) (.ref C_ByPower) = some false
  is_Between_Uneven : PySem.W.kitOne K (.ref C_Between) (.ref C_Uneven) = some false
  io_Between_list : PySem.W.kitOne K (.ref C_Between) (.type "list") = some false
  io_Between_tuple : PySem.W.kitOne K (.ref C_Between) (.type "tuple") = some false
  io_Between_int : PySem.W.kitOne K (.ref C_Between) (.type "int") = some false
  io_Between_bool : PySem.W.kitOne K (.ref C_Between) (.type "bool") = some false
  bc_Between : HB.BoolCls K C_Between f_Denial_bool
  eq_Between_NoWhole : HP.EqCls K C_Between C_NoWhole f_Paper_eq
  eq_Between_Whole : HP.EqCls K C_Between C_Whole f_Paper_eq
  eq_Between_Between : HP.EqCls K C_Between C_Between f_Paper_eq
  eq_Between_ByPower : HP.EqCls K C_Between C_ByPower f_Paper_eq
  eq_Between_Uneven : HP.EqCls K C_Between C_Uneven f_Paper_eq
  eq_Between_Paper : HP.EqCls K C_Between C_Paper f_Paper_eq
  eq_Between_Denial : HP.EqCls K C_Between C_Denial f_Paper_eq
  mk_ByPower : Mk K C_ByPower f_ByPower_init
  pc_ByPower : HC.PC K C_Paper C_ByPower "ByPower"
  su_ByPower_ByPower : HS.SupCls K C_ByPower C_ByPower "__init__" f_Paper_init
  na_ByPower_power : NoAttr K C_ByPower "power"
  is_ByPower_Paper : PySem.W.kitOne K (.ref C_ByPower) (.ref C_Paper) = some true
  is_ByPower_NoWhole : PySem.W.kitOne K (.ref C_ByPower) (.ref C_NoWhole) = some false
  is_ByPower_Between : PySem.W.kitOne K (.ref C_ByPower) (.ref C_Between) = some false
  is_ByPower_ByPower : PySem.W.kitOne K (.ref C_ByPower) (.ref C_ByPower) = some true
  is_ByPower_Uneven : PySem.W.kitOne K (.ref C_ByPower) (.ref C_Uneven) = some false
  io_ByPower_list : PySem.W.kitOne K (.ref C_ByPower) (.type "list") = some false
  io_ByPower_tuple : PySem.W.kitOne K (.ref C_ByPower) (.type "tuple") = some false
  io_ByPower_int : PySem.W.kitOne K (.ref C_ByPower) (.type "int") = some false
  io_ByPower_bool : PySem.W.kitOne K (.ref C_ByPower) (.type "bool") = some false
  bc_ByPower : HB.BoolCls K C_ByPower f_Paper_bool
  eq_ByPower_NoWhole : HP.EqCls K C_ByPower C_NoWhole f_Paper_eq
  eq_ByPower_Whole : HP.EqCls K C_ByPower C_Whole f_Paper_eq
  eq_ByPower_Between : HP.EqCls K C_ByPower C_Between f_Paper_eq
  eq_ByPower_ByPower : HP.EqCls K C_ByPower C_ByPower f_Paper_eq
  eq_ByPower_Uneven : HP.EqCls K C_ByPower C_Uneven f_Paper_eq
  eq_ByPower_Paper : HP.EqCls K C_ByPower C_Paper f_Paper_eq
  eq_ByPower_Denial : HP.EqCls K C_ByPower C_Denial f_Paper_eq
  mk_Uneven : Mk K C_Uneven f_Uneven_init
  pc_Uneven : HC.PC K C_Paper C_Uneven "Uneven"
  su_Uneven_Uneven : HS.SupCls K C_Uneven C_Uneven "__init__" f_Paper_init
  na_Uneven_step : NoAttr K C_Uneven "step"
  is_Uneven_Paper : PySem.W.kitOne K (.ref C_Uneven) (.ref C_Paper) = some true
  is_Uneven_NoWhole : PySem.W.kitOne K (.ref C_Uneven) (.ref C_NoWhole) = some false
  is_Uneven_Between : PySem.W.kitOne K (.ref C_Uneven) (.ref C_Between) = some false
  is_Uneven_ByPower : PySem.W.kitOne K (.ref C_Uneven) (.ref C_ByPower) = some false
  is_Uneven_Uneven : PySem.W.kitOne K (.ref C_Uneven) (.ref C_Uneven) = some true
  io_Uneven_list : PySem.W.kitOne K (.ref C_Uneven) (.type "list") = some false
  io_Uneven_tuple : PySem.W.kitOne K (.ref C_Uneven) (.type "tuple") = some false
  io_Uneven_int : PySem.W.kitOne K (.ref C_Uneven) (.type "int") = some false
  io_Uneven_bool : PySem.W.kitOne K (.ref C_Uneven) (.type "bool") = some false
  bc_Uneven : HB.BoolCls K C_Uneven f_Denial_bool
  eq_Uneven_NoWhole : HP.EqCls K C_Uneven C_NoWhole f_Paper_eq
  eq_Uneven_Whole : HP.EqCls K C_Uneven C_Whole f_Paper_eq
  eq_Uneven_Between : HP.EqCls K C_Uneven C_Between f_Paper_eq
  eq_Uneven_ByPower : HP.EqCls K C_Uneven C_ByPower f_Paper_eq
  eq_Uneven_Uneven : HP.EqCls K C_Uneven C_Uneven f_Paper_eq
  eq_Uneven_Paper : HP.EqCls K C_Uneven C_Paper f_Paper_eq
  eq_Uneven_Denial : HP.EqCls K C_Uneven C_Denial f_Paper_eq
  mk_Paper : Mk K C_Paper f_Paper_init
  pc_Paper : HC.PC K C_Paper C_Paper "Paper"
  is_Paper_Paper : PySem.W.kitOne K (.ref C_Paper) (.ref C_Paper) = some true
  is_Paper_NoWhole : PySem.W.kitOne K (.ref C_Paper) (.ref C_NoWhole) = some false
  is_Paper_Between : PySem.W.kitOne K (.ref C_Paper) (.ref C_Between) = some false
  is_Paper_ByPower : PySem.W.kitOne K (.ref C_Paper) (.ref C_ByPower) = some false
  is_Paper_Uneven : PySem.W.kitOne K (.ref C_Paper) (.ref C_Uneven) = some false
  io_Paper_list : PySem.W.kitOne K (.ref C_Paper) (.type "list") = some false
  io_Paper_tuple : PySem.W.kitOne K (.ref C_Paper) (.type "tuple") = some false
  io_Paper_int : PySem.W.kitOne K (.ref C_Paper) (.type "int") = some false
  io_Paper_bool : PySem.W.kitOne K (.ref C_Paper) (.type "bool") = some false
  bc_Paper : HB.BoolCls K C_Paper f_Paper_bool
  eq_Paper_Paper : HP.EqCls K C_Paper C_Paper f_Paper_eq
  mk_Denial : Mk K C_Denial f_Paper_init
  pc_Denial : HC.PC K C_Paper C_Denial "Denial"
  is_Denial_Paper : PySem.W.kitOne K (.ref C_Denial) (.ref C_Paper) = some true
  is_Denial_NoWhole : PySem.W.kitOne K (.ref C_Denial) (.ref C_NoWhole) = some false
  is_Denial_Between : PySem.W.kitOne K (.ref C_Denial) (.ref C_Between) = some false
  is_Denial_ByPower : PySem.W.kitOne K (.ref C_Denial) (.ref C_ByPower) = some false
  is_Denial_Uneven : PySem.W.kitOne K (.ref C_Denial) (.ref C_Uneven) = some false
  io_Denial_list : PySem.W.kitOne K (.ref C_Denial) (.type "list") = some false
  io_Denial_tuple : PySem.W.kitOne K (.ref C_Denial) (.type "tuple") = some false
  io_Denial_int : PySem.W.kitOne K (.ref C_Denial) (.type "int") = some false
  io_Denial_bool : PySem.W.kitOne K (.ref C_Denial) (.type "bool") = some false
  bc_Denial : HB.BoolCls K C_Denial f_Denial_bool
  eq_Denial_Whole : HP.EqCls K C_Denial C_Whole f_Paper_eq
  eq_Denial_ByPower : HP.EqCls K C_Denial C_ByPower f_Paper_eq
  eq_Denial_Paper : HP.EqCls K C_Denial C_Paper f_Paper_eq
  eq_Denial_Denial : HP.EqCls K C_Denial C_Denial f_Paper_eq
  ib_NoneType_Paper : PySem.W.kitOne K (.type "NoneType") (.ref C_Paper) = some false
  ib_NoneType_NoWhole : PySem.W.kitOne K (.type "NoneType") (.ref C_NoWhole) = some false
  ib_NoneType_Between : PySem.W.kitOne K (.type "NoneType") (.ref C_Between) = some false
  ib_NoneType_ByPower : PySem.W.kitOne K (.type "NoneType") (.ref C_ByPower) = some false
  ib_NoneType_Uneven : PySem.W.kitOne K (.type "NoneType") (.ref C_Uneven) = some false
  ib_bool_Paper : PySem.W.kitOne K (.type "bool") (.ref C_Paper) = some false
  ib_bool_NoWhole : PySem.W.kitOne K (.type "bool") (.ref C_NoWhole) = some false
  ib_bool_Between : PySem.W.kitOne K (.type "bool") (.ref C_Between) = some false
  ib_bool_ByPower : PySem.W.kitOne K (.type "bool") (.ref C_ByPower) = some false
  ib_bool_Uneven : PySem.W.kitOne K (.type "bool") (.ref C_Uneven) = some false
  ib_int_Paper : PySem.W.kitOne K (.type "int") (.ref C_Paper) = some false
  ib_int_NoWhole : PySem.W.kitOne K (.type "int") (.ref C_NoWhole) = some false
  ib_int_Between : PySem.W.kitOne K (.type "int") (.ref C_Between) = some false
  ib_int_ByPower : PySem.W.kitOne K (.type "int") (.ref C_ByPower) = some false
  ib_int_Uneven : PySem.W.kitOne K (.type "int") (.ref C_Uneven) = some false
  ib_str_Paper : PySem.W.kitOne K (.type "str") (.ref C_Paper) = some false
  ib_str_NoWhole : PySem.W.kitOne K (.type "str") (.ref C_NoWhole) = some false
  ib_str_Between : PySem.W.kitOne K (.type "str") (.ref C_Between) = some false
  ib_str_ByPower : PySem.W.kitOne K (.type "str") (.ref C_ByPower) = some false
  ib_str_Uneven : PySem.W.kitOne K (.type "str") (.ref C_Uneven) = some false
  ib_list_Paper : PySem.W.kitOne K (.type "list") (.ref C_Paper) = some false
  ib_list_NoWhole : PySem.W.kitOne K (.type "list") (.ref C_NoWhole) = some false
  ib_list_Between : PySem.W.kitOne K (.type "list") (.ref C_Between) = some false
  ib_list_ByPower : PySem.W.kitOne K (.type "list") (.ref C_ByPower) = some false
  ib_list_Uneven : PySem.W.kitOne K (.type "list") (.ref C_Uneven) = some false
  ib_tuple_Paper : PySem.W.kitOne K (.type "tuple") (.ref C_Paper) = some false
  ib_tuple_NoWhole : PySem.W.kitOne K (.type "tuple") (.ref C_NoWhole) = some false
  ib_tuple_Between : PySem.W.kitOne K (.type "tuple") (.ref C_Between) = some false
  ib_tuple_ByPower : PySem.W.kitOne K (.type "tuple") (.ref C_ByPower) = some false
  ib_tuple_Uneven : PySem.W.kitOne K (.type "tuple") (.ref C_Uneven) = some false
  kb_power_of_row_numbers : KBinds K fd_power_of_row ["numbers"] ["numbers"] (HB.perm [0] .none) (HB.perm [0] .non)
  kb_shows_power_of_row_value_numbers : KBinds K fd_shows_power_of_row ["numbers", "value"] ["value", "numbers"] (HB.perm [1, 0] .none) (HB.perm [1, 0] .non)
  z_abs : mg "abs" = none
  z_all : mg "all" = none
  z_bool : mg "bool" = none
  z_int : mg "int" = none
  z_isinstance : mg "isinstance" = none
  z_len : mg "len" = none
  z_list : mg "list" = none
  z_max : mg "max" = none
  z_range : mg "range" = none
  z_repr : mg "repr" = none
  z_set : mg "set" = none
  z_sorted : mg "sorted" = none
  z_str : mg "str" = none
  z_tuple : mg "tuple" = none
  z_zip : mg "zip" = none
  t_MOST_POWER : Tok
  c_MOST_POWER : mg "MOST_POWER" = some (.int 80 t_MOST_POWER)
  t_MOST_TOLD : Tok
  c_MOST_TOLD : mg "MOST_TOLD" = some (.int 99 t_MOST_TOLD)
  t_MOST_IN_ROW : Tok
  c_MOST_IN_ROW : mg "MOST_IN_ROW" = some (.int 12 t_MOST_IN_ROW)
namespace Tx
variable {P : Program} {K : PySem.W.Frag} {mg : Str → Option Value}
theorem r_MOST_POWER (T : Tx P K mg) : RelV (.int 80) (.int 80 T.t_MOST_POWER) := ⟨_, rfl⟩
theorem r_MOST_TOLD (T : Tx P K mg) : RelV (.int 99) (.int 99 T.t_MOST_TOLD) := ⟨_, rfl⟩
theorem r_MOST_IN_ROW (T : Tx P K mg) : RelV (.int 12) (.int 12 T.t_MOST_IN_ROW) := ⟨_, rfl⟩
end Tx
end D23
namespace D23
open PySem PySem.Spec PyProof.Rows L2 HX
section
variable {P : Program} {w : World} {K : PySem.W.Frag} {mg : Str → Option Value} {base : Heap}
local macro_rules | `(tactic| fail "fcl") => `(tactic| with_reducible first | exact (show Tx _ _ _ by assumption).pc_NoWhole.cl | exact (show Tx _ _ _ by assumption).pc_Whole.cl | exact (show Tx _ _ _ by assumption).pc_Between.cl | exact (show Tx _ _ _ by assumption).pc_ByPower.cl | exact (show Tx _ _ _ by assumption).pc_Uneven.cl | exact (show Tx _ _ _ by assumption).pc_Paper.cl | exact (show Tx _ _ _ by assumption).pc_Denial.cl)
local macro_rules | `(tactic| fail "fpc") => `(tactic| with_reducible first | exact (show Tx _ _ _ by assumption).pc_NoWhole | exact (show Tx _ _ _ by assumption).pc_Whole | exact (show Tx _ _ _ by assumption).pc_Between | exact (show Tx _ _ _ by assumption).pc_ByPower | exact (show Tx _ _ _ by assumption).pc_Uneven | exact (show Tx _ _ _ by assumption).pc_Paper | exact (show Tx _ _ _ by assumption).pc_Denial)
local macro_rules | `(tactic| fail "fhc") => `(tactic| with_reducible first | exact (show Tx _ _ _ by assumption).pc_NoWhole.hc | exact (show Tx _ _ _ by assumption).pc_Whole.hc | exact (show Tx _ _ _ by assumption).pc_Between.hc | exact (show Tx _ _ _ by assumption).pc_ByPower.hc | exact (show Tx _ _ _ by assumption).pc_Uneven.hc | exact (show Tx _ _ _ by assumption).pc_Paper.hc | exact (show Tx _ _ _ by assumption).pc_Denial.hc)
local macro_rules | `(tactic| fail "fna") => `(tactic| with_reducible first | exact (show Tx _ _ _ by assumption).pc_NoWhole.word | exact (show Tx _ _ _ by assumption).pc_NoWhole.parts | exact (show Tx _ _ _ by assumption).na_NoWhole_low | exact (show Tx _ _ _ by assumption).pc_Whole.word | exact (show Tx _ _ _ by assumption).pc_Whole.parts | exact (show Tx _ _ _ by assumption).na_Whole_number | exact (show Tx _ _ _ by assumption).pc_Between.word | exact (show Tx _ _ _ by assumption).pc_Between.parts | exact (show Tx _ _ _ by assumption).na_Between_low | exact (show Tx _ _ _ by assumption).pc_ByPower.word | exact (show Tx _ _ _ by assumption).pc_ByPower.parts | exact (show Tx _ _ _ by assumption).na_ByPower_power | exact (show Tx _ _ _ by assumption).pc_Uneven.word | exact (show Tx _ _ _ by assumption).pc_Uneven.parts | exact (show Tx _ _ _ by assumption).na_Uneven_step | exact (show Tx _ _ _ by assumption).pc_Paper.word | exact (show Tx _ _ _ by assumption).pc_Paper.parts | exact (show Tx _ _ _ by assumption).pc_Denial.word | exact (show Tx _ _ _ by assumption).pc_Denial.parts)
local macro_rules | `(tactic| fail "fki") => `(tactic| with_reducible first | exact (show Tx _ _ _ by assumption).is_NoWhole_Paper | exact (show Tx _ _ _ by assumption).is_NoWhole_NoWhole | exact (show Tx _ _ _ by assumption).is_NoWhole_Between | exact (show Tx _ _ _ by assumption).is_NoWhole_ByPower | exact (show Tx _ _ _ by assumption).is_NoWhole_Uneven | exact (show Tx _ _ _ by assumption).is_Whole_Paper | exact (show Tx _ _ _ by assumption).is_Whole_NoWhole | exact (show Tx _ _ _ by assumption).is_Whole_Between | exact (show Tx _ _ _ by assumption).is_Whole_ByPower | exact (show Tx _ _ _ by assumption).is_Whole_Uneven | exact (show Tx _ _ _ by assumption).is_Between_Paper | exact (show Tx _ _ _ by assumption).is_Between_NoWhole | exact (show Tx _ _ _ by assumption).is_Between_Between | exact (show Tx _ _ _ by assumption).is_Between_ByPower | exact (show Tx _ _ _ by assumption).is_Between_Uneven | exact (show Tx _ _ _ by assumption).is_ByPower_Paper | exact (show Tx _ _ _ by assumption).is_ByPower_NoWhole | exact (show Tx _ _ _ by assumption).is_ByPower_Between | exact (show Tx _ _ _ by assumption).is_ByPower_ByPower | exact (show Tx _ _ _ by assumption).is_ByPower_Uneven | exact (show Tx _ _ _ by assumption).is_Uneven_Paper | exact (show Tx _ _ _ by assumption).is_Uneven_NoWhole | exact (show Tx _ _ _ by assumption).is_Uneven_Between | exact (show Tx _ _ _ by assumption).is_Uneven_ByPower | exact (show Tx _ _ _ by assumption).is_Uneven_Uneven | exact (show Tx _ _ _ by assumption).is_Paper_Paper | exact (show Tx _ _ _ by assumption).is_Paper_NoWhole | exact (show Tx _ _ _ by assumption).is_Paper_Between | exact (show Tx _ _ _ by assumption).is_Paper_ByPower | exact (show Tx _ _ _ by assumption).is_Paper_Uneven | exact (show Tx _ _ _ by assumption).is_Denial_Paper | exact (show Tx _ _ _ by assumption).is_Denial_NoWhole | exact (show Tx _ _ _ by assumption).is_Denial_Between | exact (show Tx _ _ _ by assumption).is_Denial_ByPower | exact (show Tx _ _ _ by assumption).is_Denial_Uneven | exact (show Tx _ _ _ by assumption).ib_NoneType_Paper | exact (show Tx _ _ _ by assumption).ib_NoneType_NoWhole | exact (show Tx _ _ _ by assumption).ib_NoneType_Between | exact (show Tx _ _ _ by assumption).ib_NoneType_ByPower | exact (show Tx _ _ _ by assumption).ib_NoneType_Uneven | exact (show Tx _ _ _ by assumption).ib_bool_Paper | exact (show Tx _ _ _ by assumption).ib_bool_NoWhole | exact (show Tx _ _ _ by assumption).ib_bool_Between | exact (show Tx _ _ _ by assumption).ib_bool_ByPower | exact (show Tx _ _ _ by assumption).ib_bool_Uneven | exact (show Tx _ _ _ by assumption).ib_int_Paper | exact (show Tx _ _ _ by assumption).ib_int_NoWhole | exact (show Tx _ _ _ by assumption).ib_int_Between | exact (show Tx _ _ _ by assumption).ib_int_ByPower | exact (show Tx _ _ _ by assumption).ib_int_Uneven | exact (show Tx _ _ _ by assumption).ib_str_Paper | exact (show Tx _ _ _ by assumption).ib_str_NoWhole | exact (show Tx _ _ _ by assumption).ib_str_Between | exact (show Tx _ _ _ by assumption).ib_str_ByPower | exact (show Tx _ _ _ by assumption).ib_str_Uneven | exact (show Tx _ _ _ by assumption).ib_list_Paper | exact (show Tx _ _ _ by assumption).ib_list_NoWhole | exact (show Tx _ _ _ by assumption).ib_list_Between | exact (show Tx _ _ _ by assumption).ib_list_ByPower | exact (show Tx _ _ _ by assumption).ib_list_Uneven | exact (show Tx _ _ _ by assumption).ib_tuple_Paper | exact (show Tx _ _ _ by assumption).ib_tuple_NoWhole | exact (show Tx _ _ _ by assumption).ib_tuple_Between | exact (show Tx _ _ _ by assumption).ib_tuple_ByPower | exact (show Tx _ _ _ by assumption).ib_tuple_Uneven | exact (show Tx _ _ _ by assumption).io_NoWhole_list | exact (show Tx _ _ _ by assumption).io_NoWhole_tuple | exact (show Tx _ _ _ by assumption).io_NoWhole_int | exact (show Tx _ _ _ by assumption).io_NoWhole_bool | exact (show Tx _ _ _ by assumption).io_Whole_list | exact (show Tx _ _ _ by assumption).io_Whole_tuple | exact (show Tx _ _ _ by assumption).io_Whole_int | exact (show Tx _ _ _ by assumption).io_Whole_bool | exact (show Tx _ _ _ by assumption).io_Between_list | exact (show Tx _ _ _ by assumption).io_Between_tuple | exact (show Tx _ _ _ by assumption).io_Between_int | exact (show Tx _ _ _ by assumption).io_Between_bool | exact (show Tx _ _ _ by assumption).io_ByPower_list | exact (show Tx _ _ _ by assumption).io_ByPower_tuple | exact (show Tx _ _ _ by assumption).io_ByPower_int | exact (show Tx _ _ _ by assumption).io_ByPower_bool | exact (show Tx _ _ _ by assumption).io_Uneven_list | exact (show Tx _ _ _ by assumption).io_Uneven_tuple | exact (show Tx _ _ _ by assumption).io_Uneven_int | exact (show Tx _ _ _ by assumption).io_Uneven_bool | exact (show Tx _ _ _ by assumption).io_Paper_list | exact (show Tx _ _ _ by assumption).io_Paper_tuple | exact (show Tx _ _ _ by assumption).io_Paper_int | exact (show Tx _ _ _ by assumption).io_Paper_bool | exact (show Tx _ _ _ by assumption).io_Denial_list | exact (show Tx _ _ _ by assumption).io_Denial_tuple | exact (show Tx _ _ _ by assumption).io_Denial_int | exact (show Tx _ _ _ by assumption).io_Denial_bool)
theorem fixed_step (T : Tx P K mg) (m : Nat) (ih : FnOk P w K mg base CX0 m T.f_fixed T.fd_fixed ["value"] (HD.lift K (HD.spd_fixedB m))) : FnOk P w K mg base CX0 (m + 1) T.f_fixed T.fd_fixed ["value"] (HD.lift K (HD.spd_fixed m)) := by
  refine T.F_fixed.ok sc_fixed (fun vs H Q E h => ?_) (fun cdv A outer s H vs Q E hr h => ?_)
  · obtain ⟨cx, nn, args, Qd, Ed, hc, d, rfl, _⟩ := h; exact hc.ra.len
  obtain ⟨cx, nn, args, Qd, Ed, hc, d, rfl, ok, q⟩ := h
  refine ⟨_, (pss_cons (ps_if (pt_not (pt_val (pe_callB (HD.call_isiTU (K := K)) (by rfl) T.z_isinstance (by decide +kernel) (pa_cons (pv 0) (pa_cons (pe_tup (pa_cons (pe_bltn (v := .ty "list") (by rfl) T.z_list (by decide +kernel) rfl) (pa_cons (pe_bltn (v := .ty "tuple") (by rfl) T.z_tuple (by decide +kernel) rfl) pa_nil))) pa_nil))))) (pss_one (ps_ret (pv 0))) pss_nil)
      (pss_one (ps_ret (pe_callTy (call_tupleK (K := K)) (by rfl) T.z_tuple (by decide +kernel) (pa_cons (pe_lc (own := [("part", 1)]) (g := gName 1) (tt := tYes) (by rfl) sc_fixed.nd (HC.pi_seqK (K := K) (pv 0)) (blkOk_by (own := [("part", 1)]) (N := n_fixed) (sc := defScope s_fixed) (by decide +kernel)) (fun _ _ _ _ _ => (pg_name (i := 1) sc_fixed.nd rfl (by first | exact .inl rfl | exact .inr rfl))) (fun _ _ _ _ _ => pts_nil) (fun _ _ _ _ _ => (pe_call ih hr (by rfl) T.g_fixed T.F_fixed.kp T.b_fixed .nil pass0 (pa_cons (pv 1) pa_nil)))) pa_nil))))), HD.enter (ρ := [HD.S.v d, HD.S.un]) hc rfl ?_⟩
  clear hc
  obtain ⟨t, et⟩ := HD.okF_tn ok
  fail "dr"
  refine HD.isiTB_ (it := .v d) et rfl (HD.sq_kit et) ?_
  fail "dr"
  cases d with
  | lst xs =>
    cases m with
    | zero => simp [HD.okF] at ok
    | succ m =>
    simp only [HD.okF, Bool.and_eq_true, List.all_eq_true] at ok
    have hl := Nat.le_of_ble_eq_true ok.1
    fail "dr"
    refine HD.iseqL_ ?_
    fail "dr"
    refine HD.CpD.mapD HD.D.fix hl (fun x hx ys => ?_) ?_
    · fail "dr"
      exact ⟨x, rfl, ok.2 x hx, rfl, rfl, rfl⟩
    · fail "dr"
      rw [HD.D.fix, HD.D.fixs_map] at q
      exact q
  | tup xs =>
    cases m with
    | zero => simp [HD.okF] at ok
    | succ m =>
    simp only [HD.okF, Bool.and_eq_true, List.all_eq_true] at ok
    have hl := Nat.le_of_ble_eq_true ok.1
    fail "dr"
    refine HD.iseqT_ ?_
    fail "dr"
    refine HD.CpD.mapD HD.D.fix hl (fun x hx ys => ?_) ?_
    · fail "dr"
      exact ⟨x, rfl, ok.2 x hx, rfl, rfl, rfl⟩
    · fail "dr"
      rw [HD.D.fix, HD.D.fixs_map] at q
      exact q
  | _ =>
    fail "dr"
    exact q
theorem ok_fixedN (T : Tx P K mg) : ∀ m, FnOk P w K mg base CX0 (m + 1) T.f_fixed T.fd_fixed ["value"] (HD.lift K (HD.spd_fixed m))
  | 0 => fixed_step T 0 (by rw [HD.lift_false]; exact HC.FnOk.nil)
  | m + 1 => fixed_step T (m + 1) (ok_fixedN T m)
theorem ok_fixed (T : Tx P K mg) : FnOk P w K mg base CX0 3 T.f_fixed T.fd_fixed ["value"] (HD.lift K (HD.spd_fixed 2)) := ok_fixedN T 2
theorem okB_Paper_init (T : Tx P K mg) {C : Addr} (hC : Cls K C) (nw : NoAttr K C "word") (np : NoAttr K C "parts") : FnR P w K mg base CX0 4 T.f_Paper_init (HC.starS ["self", "word"] (HD.liftI K C (HD.spi_PaperB 2))) := by
  refine HC.star_ok T.SF_Paper_init sc_Paper_init (fun cdv A outer s H vs Q E hr h => ?_)
  obtain ⟨cx, nn, x, dx, ws, args, Qd, Ed, rfl, hc, w', xs, rfl, ok, q⟩ := h
  have hwl : ws.length = 2 := hc.ra.len
  match ws, hwl with
  | [w1, w2], _ =>
  refine ⟨_, (pss_cons (HC.ps_fldK (K := K) (pv 0) (pv 1))
      (pss_one (HC.ps_fldK (K := K) (pv 0) (pe_call (ok_fixed T) (hr.mono (by decide)) (by rfl) T.g_fixed T.F_fixed.kp T.b_fixed .nil pass0 (pa_cons (pv 2) pa_nil))))), ?_⟩
  refine HX.start_ (σ := [some (V.ref x), some w1, some w2]) rfl ?_
  refine HD.enterI hc (m := 0) (es := [.str w', .tup xs]) rfl (fun L s => ?_)
  refine (?_ : HD.GS cx _ nn [] _ ⟨fun ρ m => ∃ fs, ρ[0]? = some (.me x (.ins C fs)) ∧ Qd fs m, fun _ _ => False, fun _ _ => False, fun _ _ => False⟩) _ _ _ _ ⟨_, _, s⟩ ⟨fun ρ n σ H ⟨fs, h0, q⟩ s => HD.leaveI hc s h0 q, fun _ _ _ _ q => q.elim, fun _ _ _ _ q => q.elim, fun _ _ _ _ q => q.elim⟩
  clear s hc
  dsimp only [List.map, List.replicate, List.cons_append, List.nil_append]
  fail "dr"
  refine ⟨_, _, _, _, _, rfl, rfl, rfl, hC, nw, rfl, ?_⟩
  fail "dr"
  refine ⟨.tup xs, rfl, ok, ?_⟩
  fail "dr"
  refine ⟨_, _, _, _, _, rfl, rfl, rfl, hC, np, rfl, ?_⟩
  refine ⟨_, rfl, ?_⟩
  exact q
theorem okC_Paper_init (T : Tx P K mg) {C CP : Addr} {nm : Str} (pc : HC.PC K CP C nm) : FnR P w K mg base CX0 4 T.f_Paper_init (HD.liftI K C (HD.spi_Paper 2)) := HD.fnr_imp (okB_Paper_init T pc.cl pc.word pc.parts) HD.starI
def spi_Whole_init (ds : List HD.D) (n : Nat) (Q : List (Str × HD.D) → Nat → Prop) (_ : HD.XD) : Prop := ∃ d0, ds = [d0] ∧ HD.okF 1 d0 = true ∧ Q [("word", .str "whole"), ("parts", .tup [d0.fix]), ("number", d0.fix)] n
theorem okK_Whole_init (T : Tx P K mg) (kw : Bool) : HS.FnB P w K mg base CX0 5 T.f_Whole_init ["self", "number"] kw (HD.liftI K T.C_Whole spi_Whole_init) := by
  refine HS.fn_superB kw T.SD_Whole_init rfl sc_Whole_init rfl rfl rfl rfl rfl (fun _ => rfl) (fun _ => rfl) (fun _ => rfl) (fun _ => rfl) (fun _ => rfl) (fun vs H Q E h => ?_) (fun A outer s H vs Q E hr h => ?_)
  · obtain ⟨cx, nn, x, dx, ws, args, Qd, Ed, rfl, hc, hsp⟩ := h
    obtain ⟨d0, rfl, ok0, q⟩ := hsp
    exact congrArg (· + 1) hc.ra.len
  obtain ⟨cx, nn, x, dx, ws, args, Qd, Ed, rfl, hc, hsp⟩ := h
  obtain ⟨d0, rfl, ok0, q⟩ := hsp
  have hwl : ws.length = 1 := hc.ra.len
  match ws, hwl with
  | [w0], _ =>
  refine ⟨x, T.C_Whole, dx, T.f_Paper_init, [], _, _, _, HD.liftI K T.C_Whole (HD.spi_Paper 2), rfl, hc.hx, T.su_Whole_Whole, (okC_Paper_init T T.pc_Whole).mono (by decide), (pa_cons pe_str (pa_cons (pv 1) pa_nil)), (pss_one (HC.ps_fldK (K := K) (pv 0) (pe_ix (ix_K (K := K)) (HC.pe_fldK (K := K) (pv 0)) pe_int (fun _ _ => rfl)))), ?_⟩
  generalize hσ : NdefX.startF n_Whole_init [V.ref x, w0] [none] = σ0
  obtain ⟨L, s⟩ := HD.enterJ (σ := σ0) hc (m := 1) (es := [d0]) (by rw [← hσ]; rfl)
  refine HD.super_ (ds := []) rfl (D := ⟨fun ρ m => ∃ fs, ρ[0]? = some (.me x (.ins T.C_Whole fs)) ∧ Qd fs m, fun _ _ => False, fun _ _ => False, fun _ _ => False⟩) ?_ ⟨_, _, s⟩ ⟨fun ρ n σ H ⟨fs, h0, q⟩ s => HD.leaveI hc s h0 q, fun _ _ _ _ q => q.elim, fun _ _ _ _ q => q.elim, fun _ _ _ _ q => q.elim⟩
  clear s hc
  dsimp only [List.map, List.replicate, List.cons_append, List.nil_append]
  fail "dr"
  refine ⟨rfl, "whole", [d0], rfl, ?_, ?_⟩
  · simp only [HD.okF, List.length_cons, List.length_nil, List.all_cons, List.all_nil, Bool.and_true, ok0]; rfl
  dsimp only [List.set_cons_zero]
  fail "dr"
  refine ⟨_, rfl, ?_⟩
  exact q
theorem ok_Whole_init (T : Tx P K mg) : FnR P w K mg base CX0 5 T.f_Whole_init (HD.liftI K T.C_Whole spi_Whole_init) := fun A outer s H us vs Q E => okK_Whole_init T false A outer s H us vs Q E
theorem use_Whole_init {d0 : HD.D} {n : Nat} {Q : List (Str × HD.D) → Nat → Prop} {E : HD.XD} (h0 : HD.okF 1 d0 = true) (q : Q [("word", .str "whole"), ("parts", .tup [d0.fix]), ("number", d0.fix)] n) : spi_Whole_init [d0] n Q E := ⟨d0, rfl, h0, q⟩

def spi_NoWhole_init (ds : List HD.D) (n : Nat) (Q : List (Str × HD.D) → Nat → Prop) (_ : HD.XD) : Prop := ∃ d0, ds = [d0] ∧ HD.okF 1 d0 = true ∧ Q [("word", .str "nowhole"), ("parts", .tup [d0.fix]), ("low", d0.fix)] n
theorem okK_NoWhole_init (T : Tx P K mg) (kw : Bool) : HS.FnB P w K mg base CX0 5 T.f_NoWhole_init ["self", "low"] kw (HD.liftI K T.C_NoWhole spi_NoWhole_init) := by
  refine HS.fn_superB kw T.SD_NoWhole_init rfl sc_NoWhole_init rfl rfl rfl rfl rfl (fun _ => rfl) (fun _ => rfl) (fun _ => rfl) (fun _ => rfl) (fun _ => rfl) (fun vs H Q E h => ?_) (fun A outer s H vs Q E hr h => ?_)
  · obtain ⟨cx, nn, x, dx, ws, args, Qd, Ed, rfl, hc, hsp⟩ := h
    obtain ⟨d0, rfl, ok0, q⟩ := hsp
    exact congrArg (· + 1) hc.ra.len
  obtain ⟨cx, nn, x, dx, ws, args, Qd, Ed, rfl, hc, hsp⟩ := h
  obtain ⟨d0, rfl, ok0, q⟩ := hsp
  have hwl : ws.length = 1 := hc.ra.len
  match ws, hwl with
  | [w0], _ =>
  refine ⟨x, T.C_NoWhole, dx, T.f_Paper_init, [], _, _, _, HD.liftI K T.C_NoWhole (HD.spi_Paper 2), rfl, hc.hx, T.su_NoWhole_NoWhole, (okC_Paper_init T T.pc_NoWhole).mono (by decide), (pa_cons pe_str (pa_cons (pv 1) pa_nil)), (pss_one (HC.ps_fldK (K := K) (pv 0) (pe_ix (ix_K (K := K)) (HC.pe_fldK (K := K) (pv 0)) pe_int (fun _ _ => rfl)))), ?_⟩
  generalize hσ : NdefX.startF n_NoWhole_init [V.ref x, w0] [none] = σ0
  obtain ⟨L, s⟩ := HD.enterJ (σ := σ0) hc (m := 1) (es := [d0]) (by rw [← hσ]; rfl)
  refine HD.super_ (ds := []) rfl (D := ⟨fun ρ m => ∃ fs, ρ[0]? = some (.me x (.ins T.C_NoWhole fs)) ∧ Qd fs m, fun _ _ => False, fun _ _ => False, fun _ _ => False⟩) ?_ ⟨_, _, s⟩ ⟨fun ρ n σ H ⟨fs, h0, q⟩ s => HD.leaveI hc s h0 q, fun _ _ _ _ q => q.elim, fun _ _ _ _ q => q.elim, fun _ _ _ _ q => q.elim⟩
  clear s hc
  dsimp only [List.map, List.replicate, List.cons_append, List.nil_append]
  fail "dr"
  refine ⟨rfl, "nowhole", [d0], rfl, ?_, ?_⟩
  · simp only [HD.okF, List.length_cons, List.length_nil, List.all_cons, List.all_nil, Bool.and_true, ok0]; rfl
  dsimp only [List.set_cons_zero]
  fail "dr"
  refine ⟨_, rfl, ?_⟩
  exact q
theorem ok_NoWhole_init (T : Tx P K mg) : FnR P w K mg base CX0 5 T.f_NoWhole_init (HD.liftI K T.C_NoWhole spi_NoWhole_init) := fun A outer s H us vs Q E => okK_NoWhole_init T false A outer s H us vs Q E
theorem use_NoWhole_init {d0 : HD.D} {n : Nat} {Q : List (Str × HD.D) → Nat → Prop} {E : HD.XD} (h0 : HD.okF 1 d0 = true) (q : Q [("word", .str "nowhole"), ("parts", .tup [d0.fix]), ("low", d0.fix)] n) : spi_NoWhole_init [d0] n Q E := ⟨d0, rfl, h0, q⟩

def spi_ByPower_init (ds : List HD.D) (n : Nat) (Q : List (Str × HD.D) → Nat → Prop) (_ : HD.XD) : Prop := ∃ d0, ds = [d0] ∧ HD.okF 1 d0 = true ∧ Q [("word", .str "bypower"), ("parts", .tup [d0.fix]), ("power", d0.fix)] n
theorem okK_ByPower_init (T : Tx P K mg) (kw : Bool) : HS.FnB P w K mg base CX0 5 T.f_ByPower_init ["self", "power"] kw (HD.liftI K T.C_ByPower spi_ByPower_init) := by
  refine HS.fn_superB kw T.SD_ByPower_init rfl sc_ByPower_init rfl rfl rfl rfl rfl (fun _ => rfl) (fun _ => rfl) (fun _ => rfl) (fun _ => rfl) (fun _ => rfl) (fun vs H Q E h => ?_) (fun A outer s H vs Q E hr h => ?_)
  · obtain ⟨cx, nn, x, dx, ws, args, Qd, Ed, rfl, hc, hsp⟩ := h
    obtain ⟨d0, rfl, ok0, q⟩ := hsp
    exact congrArg (· + 1) hc.ra.len
  obtain ⟨cx, nn, x, dx, ws, args, Qd, Ed, rfl, hc, hsp⟩ := h
  obtain ⟨d0, rfl, ok0, q⟩ := hsp
  have hwl : ws.length = 1 := hc.ra.len
  match ws, hwl with
  | [w0], _ =>
  refine ⟨x, T.C_ByPower, dx, T.f_Paper_init, [], _, _, _, HD.liftI K T.C_ByPower (HD.spi_Paper 2), rfl, hc.hx, T.su_ByPower_ByPower, (okC_Paper_init T T.pc_ByPower).mono (by decide), (pa_cons pe_str (pa_cons (pv 1) pa_nil)), (pss_one (HC.ps_fldK (K := K) (pv 0) (pe_ix (ix_K (K := K)) (HC.pe_fldK (K := K) (pv 0)) pe_int (fun _ _ => rfl)))), ?_⟩
  generalize hσ : NdefX.startF n_ByPower_init [V.ref x, w0] [none] = σ0
  obtain ⟨L, s⟩ := HD.enterJ (σ := σ0) hc (m := 1) (es := [d0]) (by rw [← hσ]; rfl)
  refine HD.super_ (ds := []) rfl (D := ⟨fun ρ m => ∃ fs, ρ[0]? = some (.me x (.ins T.C_ByPower fs)) ∧ Qd fs m, fun _ _ => False, fun _ _ => False, fun _ _ => False⟩) ?_ ⟨_, _, s⟩ ⟨fun ρ n σ H ⟨fs, h0, q⟩ s => HD.leaveI hc s h0 q, fun _ _ _ _ q => q.elim, fun _ _ _ _ q => q.elim, fun _ _ _ _ q => q.elim⟩
  clear s hc
  dsimp only [List.map, List.replicate, List.cons_append, List.nil_append]
  fail "dr"
  refine ⟨rfl, "bypower", [d0], rfl, ?_, ?_⟩
  · simp only [HD.okF, List.length_cons, List.length_nil, List.all_cons, List.all_nil, Bool.and_true, ok0]; rfl
  dsimp only [List.set_cons_zero]
  fail "dr"
  refine ⟨_, rfl, ?_⟩
  exact q
theorem ok_ByPower_init (T : Tx P K mg) : FnR P w K mg base CX0 5 T.f_ByPower_init (HD.liftI K T.C_ByPower spi_ByPower_init) := fun A outer s H us vs Q E => okK_ByPower_init T false A outer s H us vs Q E
theorem use_ByPower_init {d0 : HD.D} {n : Nat} {Q : List (Str × HD.D) → Nat → Prop} {E : HD.XD} (h0 : HD.okF 1 d0 = true) (q : Q [("word", .str "bypower"), ("parts", .tup [d0.fix]), ("power", d0.fix)] n) : spi_ByPower_init [d0] n Q E := ⟨d0, rfl, h0, q⟩

def spi_Between_init (ds : List HD.D) (n : Nat) (Q : List (Str × HD.D) → Nat → Prop) (_ : HD.XD) : Prop := ∃ d0, ds = [d0] ∧ HD.okF 1 d0 = true ∧ Q [("word", .str "between"), ("parts", .tup [d0.fix]), ("low", d0.fix)] n
theorem okK_Between_init (T : Tx P K mg) (kw : Bool) : HS.FnB P w K mg base CX0 5 T.f_Between_init ["self", "low"] kw (HD.liftI K T.C_Between spi_Between_init) := by
  refine HS.fn_superB kw T.SD_Between_init rfl sc_Between_init rfl rfl rfl rfl rfl (fun _ => rfl) (fun _ => rfl) (fun _ => rfl) (fun _ => rfl) (fun _ => rfl) (fun vs H Q E h => ?_) (fun A outer s H vs Q E hr h => ?_)
  · obtain ⟨cx, nn, x, dx, ws, args, Qd, Ed, rfl, hc, hsp⟩ := h
    obtain ⟨d0, rfl, ok0, q⟩ := hsp
    exact congrArg (· + 1) hc.ra.len
  obtain ⟨cx, nn, x, dx, ws, args, Qd, Ed, rfl, hc, hsp⟩ := h
  obtain ⟨d0, rfl, ok0, q⟩ := hsp
  have hwl : ws.length = 1 := hc.ra.len
  match ws, hwl with
  | [w0], _ =>
  refine ⟨x, T.C_Between, dx, T.f_Paper_init, [], _, _, _, HD.liftI K T.C_Between (HD.spi_Paper 2), rfl, hc.hx, T.su_Between_Between, (okC_Paper_init T T.pc_Between).mono (by decide), (pa_cons pe_str (pa_cons (pv 1) pa_nil)), (pss_one (HC.ps_fldK (K := K) (pv 0) (pe_ix (ix_K (K := K)) (HC.pe_fldK (K := K) (pv 0)) pe_int (fun _ _ => rfl)))), ?_⟩
  generalize hσ : NdefX.startF n_Between_init [V.ref x, w0] [none] = σ0
  obtain ⟨L, s⟩ := HD.enterJ (σ := σ0) hc (m := 1) (es := [d0]) (by rw [← hσ]; rfl)
  refine HD.super_ (ds := []) rfl (D := ⟨fun ρ m => ∃ fs, ρ[0]? = some (.me x (.ins T.C_Between fs)) ∧ Qd fs m, fun _ _ => False, fun _ _ => False, fun _ _ => False⟩) ?_ ⟨_, _, s⟩ ⟨fun ρ n σ H ⟨fs, h0, q⟩ s => HD.leaveI hc s h0 q, fun _ _ _ _ q => q.elim, fun _ _ _ _ q => q.elim, fun _ _ _ _ q => q.elim⟩
  clear s hc
  dsimp only [List.map, List.replicate, List.cons_append, List.nil_append]
  fail "dr"
  refine ⟨rfl, "between", [d0], rfl, ?_, ?_⟩
  · simp only [HD.okF, List.length_cons, List.length_nil, List.all_cons, List.all_nil, Bool.and_true, ok0]; rfl
  dsimp only [List.set_cons_zero]
  fail "dr"
  refine ⟨_, rfl, ?_⟩
  exact q
theorem ok_Between_init (T : Tx P K mg) : FnR P w K mg base CX0 5 T.f_Between_init (HD.liftI K T.C_Between spi_Between_init) := fun A outer s H us vs Q E => okK_Between_init T false A outer s H us vs Q E
theorem use_Between_init {d0 : HD.D} {n : Nat} {Q : List (Str × HD.D) → Nat → Prop} {E : HD.XD} (h0 : HD.okF 1 d0 = true) (q : Q [("word", .str "between"), ("parts", .tup [d0.fix]), ("low", d0.fix)] n) : spi_Between_init [d0] n Q E := ⟨d0, rfl, h0, q⟩

def spi_Uneven_init (ds : List HD.D) (n : Nat) (Q : List (Str × HD.D) → Nat → Prop) (_ : HD.XD) : Prop := ∃ d0, ds = [d0] ∧ HD.okF 1 d0 = true ∧ Q [("word", .str "uneven"), ("parts", .tup [d0.fix]), ("step", d0.fix)] n
theorem okK_Uneven_init (T : Tx P K mg) (kw : Bool) : HS.FnB P w K mg base CX0 5 T.f_Uneven_init ["self", "step"] kw (HD.liftI K T.C_Uneven spi_Uneven_init) := by
  refine HS.fn_superB kw T.SD_Uneven_init rfl sc_Uneven_init rfl rfl rfl rfl rfl (fun _ => rfl) (fun _ => rfl) (fun _ => rfl) (fun _ => rfl) (fun _ => rfl) (fun vs H Q E h => ?_) (fun A outer s H vs Q E hr h => ?_)
  · obtain ⟨cx, nn, x, dx, ws, args, Qd, Ed, rfl, hc, hsp⟩ := h
    obtain ⟨d0, rfl, ok0, q⟩ := hsp
    exact congrArg (· + 1) hc.ra.len
  obtain ⟨cx, nn, x, dx, ws, args, Qd, Ed, rfl, hc, hsp⟩ := h
  obtain ⟨d0, rfl, ok0, q⟩ := hsp
  have hwl : ws.length = 1 := hc.ra.len
  match ws, hwl with
  | [w0], _ =>
  refine ⟨x, T.C_Uneven, dx, T.f_Paper_init, [], _, _, _, HD.liftI K T.C_Uneven (HD.spi_Paper 2), rfl, hc.hx, T.su_Uneven_Uneven, (okC_Paper_init T T.pc_Uneven).mono (by decide), (pa_cons pe_str (pa_cons (pv 1) pa_nil)), (pss_one (HC.ps_fldK (K := K) (pv 0) (pe_ix (ix_K (K := K)) (HC.pe_fldK (K := K) (pv 0)) pe_int (fun _ _ => rfl)))), ?_⟩
  generalize hσ : NdefX.startF n_Uneven_init [V.ref x, w0] [none] = σ0
  obtain ⟨L, s⟩ := HD.enterJ (σ := σ0) hc (m := 1) (es := [d0]) (by rw [← hσ]; rfl)
  refine HD.super_ (ds := []) rfl (D := ⟨fun ρ m => ∃ fs, ρ[0]? = some (.me x (.ins T.C_Uneven fs)) ∧ Qd fs m, fun _ _ => False, fun _ _ => False, fun _ _ => False⟩) ?_ ⟨_, _, s⟩ ⟨fun ρ n σ H ⟨fs, h0, q⟩ s => HD.leaveI hc s h0 q, fun _ _ _ _ q => q.elim, fun _ _ _ _ q => q.elim, fun _ _ _ _ q => q.elim⟩
  clear s hc
  dsimp only [List.map, List.replicate, List.cons_append, List.nil_append]
  fail "dr"
  refine ⟨rfl, "uneven", [d0], rfl, ?_, ?_⟩
  · simp only [HD.okF, List.length_cons, List.length_nil, List.all_cons, List.all_nil, Bool.and_true, ok0]; rfl
  dsimp only [List.set_cons_zero]
  fail "dr"
  refine ⟨_, rfl, ?_⟩
  exact q
theorem ok_Uneven_init (T : Tx P K mg) : FnR P w K mg base CX0 5 T.f_Uneven_init (HD.liftI K T.C_Uneven spi_Uneven_init) := fun A outer s H us vs Q E => okK_Uneven_init T false A outer s H us vs Q E
theorem use_Uneven_init {d0 : HD.D} {n : Nat} {Q : List (Str × HD.D) → Nat → Prop} {E : HD.XD} (h0 : HD.okF 1 d0 = true) (q : Q [("word", .str "uneven"), ("parts", .tup [d0.fix]), ("step", d0.fix)] n) : spi_Uneven_init [d0] n Q E := ⟨d0, rfl, h0, q⟩

theorem okV_Paper_bool (T : Tx P K mg) : FnOk P w K mg base CX0 1 T.f_Paper_bool T.fd_Paper_bool ["self"] (HB.spB true) := by
  refine T.F_Paper_bool.ok sc_Paper_bool (fun vs H Q E h => ?_) (fun cdv A outer s H vs Q E hr h => ?_)
  · obtain ⟨a, rfl, _⟩ := h; rfl
  obtain ⟨a, rfl, q⟩ := h
  refine ⟨_, (pss_one (ps_ret pe_bl)), ?_⟩
  refine HX.start_ (σ := [some (V.ref a)]) rfl ?_
  fail "hr"
  exact q
theorem okV_Denial_bool (T : Tx P K mg) : FnOk P w K mg base CX0 1 T.f_Denial_bool T.fd_Denial_bool ["self"] (HB.spB false) := by
  refine T.F_Denial_bool.ok sc_Denial_bool (fun vs H Q E h => ?_) (fun cdv A outer s H vs Q E hr h => ?_)
  · obtain ⟨a, rfl, _⟩ := h; rfl
  obtain ⟨a, rfl, q⟩ := h
  refine ⟨_, (pss_one (ps_ret pe_bl)), ?_⟩
  refine HX.start_ (σ := [some (V.ref a)]) rfl ?_
  fail "hr"
  exact q
def spd_Paper_eq (T : Tx P K mg) (ds : List HD.D) (n : Nat) (Q : HD.I → Nat → Prop) (_ : HD.XD) : Prop := ∃ C E nm nm' fs gs u v d e, ds = [.ins C fs, .ins E gs] ∧ HD.Pp K T.C_Paper C nm fs u d ∧ HD.Pp K T.C_Paper E nm' gs v e ∧ HD.D.cmp d e ∧ Q (.v (.bl (decide (nm = nm') && (decide (u = v) && HD.D.eqv d e)))) n
theorem ok_Paper_eq (T : Tx P K mg) : FnOk P w K mg base CX0 1 T.f_Paper_eq T.fd_Paper_eq ["self", "other"] (HD.lift K (spd_Paper_eq T)) := by
  refine T.F_Paper_eq.ok sc_Paper_eq (fun vs H Q E h => ?_) (fun cdv A outer s H vs Q E hr h => ?_)
  · obtain ⟨cx, nn, args, Qd, Ed, hc, hsp⟩ := h
    obtain ⟨C, E, nm, nm', fs, gs, u, v, d, e, rfl, p1, p2, hd, q⟩ := hsp
    exact hc.ra.len
  obtain ⟨cx, nn, args, Qd, Ed, hc, hsp⟩ := h
  obtain ⟨C, E, nm, nm', fs, gs, u, v, d, e, rfl, p1, p2, hd, q⟩ := hsp
  refine ⟨_, (pss_cons (ps_if (PW.pt (pw_or (pt_not (pt_val (pe_callB (call_isiK' (K := K)) (by rfl) T.z_isinstance (by decide +kernel) (pa_cons (pv 1) (pa_cons (pe_glob (v := .ref T.C_Paper) (by rfl) T.g_Paper rfl) pa_nil))))) (pw_or1 (pt_cmpR (op_neK (K := K) hr.units) (HP.pe_name (K := K) (HP.pe_class (K := K) (pv 0))) (HP.pe_name (K := K) (HP.pe_class (K := K) (pv 1))) (nomark _))))) (pss_one (ps_ret pe_bl)) pss_nil)
      (pss_one (ps_ret (pe_callTy HC.call_boolU (by rfl) T.z_bool (by decide +kernel) (pa_cons (pe_and (pe_cmpR (op_eqK (K := K) hr.units) (HC.pe_fldK (K := K) (pv 0)) (HC.pe_fldK (K := K) (pv 1)) (nomark _)) (pe_one (pe_cmpR (op_eqK (K := K) hr.units) (HC.pe_fldK (K := K) (pv 0)) (HC.pe_fldK (K := K) (pv 1)) (nomark _)))) pa_nil))))), HD.enter (ρ := [HD.S.v (.ins C fs : HD.D), HD.S.v (.ins E gs : HD.D)]) hc rfl ?_⟩
  clear hc

  fail "dr"
  refine HD.isiO_ rfl p2.pc p2.pc.isP ?_
  fail "dr"
  refine ⟨_, _, rfl, p1.pc.hc, _, _, rfl, p1.pc.nm, ?_⟩
  fail "dr"
  refine ⟨_, _, rfl, p2.pc.hc, _, _, rfl, p2.pc.nm, ?_⟩
  fail "dr"
  refine HX.itend_ (fun h => ?_) (fun h => ?_)
  · rw [decide_eq_false h] at q
    fail "dr"
    exact q
  rw [decide_eq_true h] at q
  fail "dr"
  refine ⟨_, _, _, rfl, p1.pc.cl, p1.pc.word, p1.wd, ?_⟩
  fail "dr"
  refine ⟨_, _, _, rfl, p2.pc.cl, p2.pc.word, p2.wd, ?_⟩
  fail "dr"
  refine HX.ited_ (fun h2 => ?_) (fun h2 => ?_)
  · rw [decide_eq_true h2] at q
    fail "dr"
    refine ⟨_, _, _, rfl, p1.pc.cl, p1.pc.parts, p1.pt, ?_⟩
    fail "dr"
    refine ⟨_, _, _, rfl, p2.pc.cl, p2.pc.parts, p2.pt, ?_⟩
    refine HD.eqD_ hd ?_
    fail "dr"
    exact q
  · rw [decide_eq_false h2] at q
    fail "dr"
    exact q
def isI : HD.D → Bool
  | .int _ => true
  | _ => false
def spd_is_integer (ds : List HD.D) (n : Nat) (Q : HD.I → Nat → Prop) (_ : HD.XD) : Prop := ∃ (d : HD.D), ds = [d] ∧ (d.tn.isSome = true) ∧ Q (.v (.bl (isI d))) n
theorem use_is_integer {d : HD.D} {n : Nat} {Q : HD.I → Nat → Prop} {E : HD.XD} (h : d.tn.isSome = true) (q : Q (.v (.bl (isI d))) n) : spd_is_integer [d] n Q E := ⟨d, rfl, h, q⟩
theorem ok_is_integer (T : Tx P K mg) : FnOk P w K mg base CX0 1 T.f_is_integer T.fd_is_integer ["value"] (HD.lift K spd_is_integer) := by
  refine T.F_is_integer.ok sc_is_integer (fun vs H Q E h => ?_) (fun cdv A outer s H vs Q E hr h => ?_)
  · obtain ⟨cx, nn, args, Qd, Ed, hc, hsp⟩ := h
    obtain ⟨d, rfl, h, q⟩ := hsp
    exact hc.ra.len
  obtain ⟨cx, nn, args, Qd, Ed, hc, hsp⟩ := h
  obtain ⟨d, rfl, h, q⟩ := hsp
  refine ⟨_, (pss_one (ps_ret (pe_and (pe_callB (call_isiK' (K := K)) (by rfl) T.z_isinstance (by decide +kernel) (pa_cons (pv 0) (pa_cons (pe_bltn (v := .ty "int") (by rfl) T.z_int (by decide +kernel) rfl) pa_nil))) (pe_one (pe_not (pe_callB (call_isiK' (K := K)) (by rfl) T.z_isinstance (by decide +kernel) (pa_cons (pv 0) (pa_cons (pe_bltn (v := .ty "bool") (by rfl) T.z_bool (by decide +kernel) rfl) pa_nil)))))))), HD.enter (ρ := [HD.S.v (d : HD.D)]) hc rfl ?_⟩
  clear hc

  fail "dr"
  cases d <;> first | (simp [HD.D.tn] at h; done) | skip
  all_goals
    fail "dr"
    exact q
local macro_rules | `(tactic| fail "du") => `(tactic| ((with_reducible refine' use_is_integer ?h ?_); (case h => first | rfl | assumption)))
def isWi (d : HD.D) (lo hi : Option Int) : Bool := match d with
  | .int i => (match lo with | some l => decide (l ≤ i) | none => true) && (match hi with | some h => decide (i ≤ h) | none => true)
  | _ => false
def optD : Option Int → HD.D
  | some i => .int i
  | none => .non
def spd_is_within (ds : List HD.D) (n : Nat) (Q : HD.I → Nat → Prop) (_ : HD.XD) : Prop := ∃ d lo hi, ds = [d, optD lo, optD hi] ∧ d.tn.isSome = true ∧ Q (.v (.bl (isWi d lo hi))) n
theorem ok_is_within (T : Tx P K mg) : FnOk P w K mg base CX0 2 T.f_is_within T.fd_is_within ["value", "least", "most"] (HD.lift K spd_is_within) := by
  refine T.F_is_within.ok sc_is_within (fun vs H Q E h => ?_) (fun cdv A outer s H vs Q E hr h => ?_)
  · obtain ⟨cx, nn, args, Qd, Ed, hc, hsp⟩ := h
    obtain ⟨d, lo, hi, rfl, h, q⟩ := hsp
    exact hc.ra.len
  obtain ⟨cx, nn, args, Qd, Ed, hc, hsp⟩ := h
  obtain ⟨d, lo, hi, rfl, h, q⟩ := hsp
  refine ⟨_, (pss_cons (ps_if (PW.pt (pw_or (pt_not (pt_val (pe_call (ok_is_integer T) (hr.mono (by decide)) (by rfl) T.g_is_integer T.F_is_integer.kp T.b_is_integer .nil pass0 (pa_cons (pv 0) pa_nil)))) (pw_or1 (PW.pt (pw_and (pt_cmpR op_notNU (pv 1) pe_non (nomark _)) (pw_and1 (pt_cmpR op_lt (pv 0) (pv 1) (nomark _)))))))) (pss_one (ps_ret pe_bl)) pss_nil)
      (pss_one (ps_ret (pe_or (pe_cmpR op_isNU (pv 2) pe_non (nomark _)) (pe_one (pe_cmpR op_le (pv 0) (pv 2) (nomark _))))))), HD.enter (ρ := [HD.S.v (d : HD.D), HD.S.v (optD lo : HD.D), HD.S.v (optD hi : HD.D)]) hc rfl ?_⟩
  clear hc

  fail "dr"
  cases d <;> first | (simp [HD.D.tn] at h; done) | skip
  case int i =>
    cases lo <;> cases hi <;> simp only [optD]
    · fail "dr"
      exact q
    · fail "dr"
      simpa [isWi] using q
    · rename_i l
      fail "dr"
      refine HX.ited_ (fun h1 => ?_) (fun h1 => ?_)
      · fail "dr"
        have e : isWi (.int i) (some l) none = false := by simp only [isWi, Bool.and_true]; exact decide_eq_false (by omega)
        rw [e] at q
        exact q
      · fail "dr"
        have e : isWi (.int i) (some l) none = true := by simp only [isWi, Bool.and_true]; exact decide_eq_true (by omega)
        rw [e] at q
        exact q
    · rename_i l u
      fail "dr"
      refine HX.ited_ (fun h1 => ?_) (fun h1 => ?_)
      · fail "dr"
        have e : isWi (.int i) (some l) (some u) = false := by simp only [isWi]; rw [decide_eq_false (by omega : ¬ l ≤ i), Bool.false_and]
        rw [e] at q
        exact q
      · fail "dr"
        have e : isWi (.int i) (some l) (some u) = decide (i ≤ u) := by simp only [isWi]; rw [decide_eq_true (by omega : l ≤ i), Bool.true_and]
        rw [e] at q
        exact q
  all_goals
    fail "dr"
    exact q
theorem use_is_within {v lo hi : Int} {n : Nat} {Q : HD.I → Nat → Prop} {E : HD.XD} (h : lo ≤ v ∧ v ≤ hi) (q : Q (.v (.bl true)) n) : spd_is_within [.int v, .int lo, .int hi] n Q E := ⟨.int v, some lo, some hi, rfl, rfl, by
  have e : isWi (.int v) (some lo) (some hi) = true := by simp only [isWi]; rw [decide_eq_true h.1, decide_eq_true h.2]; rfl
  rw [e]; exact q⟩
local macro_rules | `(tactic| fail "du") => `(tactic| ((with_reducible refine' use_is_within ?h ?_); (case h => constructor <;> omega)))
def spd_need_number (ds : List HD.D) (n : Nat) (Q : HD.I → Nat → Prop) (_ : HD.XD) : Prop := ∃ (v lo hi : Int) (z : Str), ds = [.int v, .str z, .int lo, .int hi] ∧ (lo ≤ v ∧ v ≤ hi) ∧ Q (.v .non) n
theorem use_need_number {v lo hi : Int} {z : Str} {n : Nat} {Q : HD.I → Nat → Prop} {E : HD.XD} (h : lo ≤ v ∧ v ≤ hi) (q : Q (.v .non) n) : spd_need_number [.int v, .str z, .int lo, .int hi] n Q E := ⟨v, lo, hi, z, rfl, h, q⟩
theorem ok_need_number (T : Tx P K mg) : FnOk P w K mg base CX0 3 T.f_need_number T.fd_need_number ["value", "part", "least", "most"] (HD.lift K spd_need_number) := by
  refine T.F_need_number.ok sc_need_number (fun vs H Q E h => ?_) (fun cdv A outer s H vs Q E hr h => ?_)
  · obtain ⟨cx, nn, args, Qd, Ed, hc, hsp⟩ := h
    obtain ⟨v, lo, hi, z, rfl, h, q⟩ := hsp
    exact hc.ra.len
  obtain ⟨cx, nn, args, Qd, Ed, hc, hsp⟩ := h
  obtain ⟨v, lo, hi, z, rfl, h, q⟩ := hsp
  refine ⟨_, (pss_one (ps_if (pt_not (pt_val (pe_call (ok_is_within T) (hr.mono (by decide)) (by rfl) T.g_is_within T.F_is_within.kp T.b_is_within .nil pass0 (pa_cons (pv 0) (pa_cons (pv 2) (pa_cons (pv 3) pa_nil)))))) (pss_one ps_never) pss_nil)), HD.enter (ρ := [HD.S.v (.int v : HD.D), HD.S.v (.str z : HD.D), HD.S.v (.int lo : HD.D), HD.S.v (.int hi : HD.D)]) hc rfl ?_⟩
  clear hc

  fail "dr"
  exact q
local macro_rules | `(tactic| fail "du") => `(tactic| ((with_reducible refine' use_need_number ?h ?_); (case h => first | assumption | trivial | omega | (constructor <;> omega))))
def spd_need_power (ds : List HD.D) (n : Nat) (Q : HD.I → Nat → Prop) (_ : HD.XD) : Prop := ∃ (p : Int), ds = [.int p] ∧ (-80 ≤ p ∧ p ≤ 80) ∧ Q (.v .non) n
theorem use_need_power {p : Int} {n : Nat} {Q : HD.I → Nat → Prop} {E : HD.XD} (h : -80 ≤ p ∧ p ≤ 80) (q : Q (.v .non) n) : spd_need_power [.int p] n Q E := ⟨p, rfl, h, q⟩
theorem ok_need_power (T : Tx P K mg) : FnOk P w K mg base CX0 4 T.f_need_power T.fd_need_power ["power"] (HD.lift K spd_need_power) := by
  refine T.F_need_power.ok sc_need_power (fun vs H Q E h => ?_) (fun cdv A outer s H vs Q E hr h => ?_)
  · obtain ⟨cx, nn, args, Qd, Ed, hc, hsp⟩ := h
    obtain ⟨p, rfl, h, q⟩ := hsp
    exact hc.ra.len
  obtain ⟨cx, nn, args, Qd, Ed, hc, hsp⟩ := h
  obtain ⟨p, rfl, h, q⟩ := hsp
  refine ⟨_, (pss_one (ps_expr (pe_call (ok_need_number T) (hr.mono (by decide)) (by rfl) T.g_need_number T.F_need_number.kp T.b_need_number .nil pass0 (pa_cons (pv 0) (pa_cons pe_str (pa_cons (pe_un un_neg (pe_glob (by rfl) T.c_MOST_POWER T.r_MOST_POWER)) (pa_cons (pe_glob (by rfl) T.c_MOST_POWER T.r_MOST_POWER) pa_nil))))))), HD.enter (ρ := [HD.S.v (.int p : HD.D)]) hc rfl ?_⟩
  clear hc

  fail "dr"
  exact q
local macro_rules | `(tactic| fail "du") => `(tactic| ((with_reducible refine' use_need_power ?h ?_); (case h => first | assumption | trivial | omega | (constructor <;> omega))))
theorem log_lt {n m : Nat} (h : n < 2 ^ m) (hm : 0 < m) : n.log2 < m := by
  by_cases h0 : n = 0
  · rw [h0]; exact hm
  · exact (Nat.log2_lt h0).mpr h
/-- a number of less than m bits -/
def Sm (m : Nat) (x : Int) : Prop := x.natAbs < 2 ^ m
theorem Sm.mono {m k : Nat} {x : Int} (h : Sm m x) (e : m ≤ k) : Sm k x := Nat.lt_of_lt_of_le h (Nat.pow_le_pow_right (by omega) e)
theorem Sm.mul {m k : Nat} {x y : Int} (h : Sm m x) (g : Sm k y) : Sm (m + k) (x * y) := by
  unfold Sm at *
  rw [Int.natAbs_mul, Nat.pow_add]
  exact Nat.mul_lt_mul'' h g
theorem Sm.pow {m : Nat} {x : Int} (h : Sm m x) (hm : 0 < m) : ∀ k : Nat, Sm (m * k + 1) (x ^ k)
  | 0 => by unfold Sm; rw [Int.pow_zero, Nat.mul_zero]; decide
  | k + 1 => by
    rw [Int.pow_succ, show m * (k + 1) + 1 = m * k + 1 + m by rw [Nat.mul_succ]; omega]
    exact (Sm.pow h hm k).mul h
theorem Sm.add {m : Nat} {x y : Int} (h : Sm m x) (g : Sm m y) : Sm (m + 1) (x + y) := by
  unfold Sm at *
  rw [Nat.pow_succ]
  omega
theorem Sm.sub {m : Nat} {x y : Int} (h : Sm m x) (g : Sm m y) : Sm (m + 1) (x - y) := by
  unfold Sm at *
  rw [Nat.pow_succ]
  omega
theorem Sm.log {m : Nat} {x : Int} (h : Sm m x) (hm : 0 < m) : x.natAbs.log2 < m := log_lt h hm
theorem Sm.of {m : Nat} {x : Int} (h : -(2 ^ m) < x ∧ x < 2 ^ m) : Sm m x := by
  unfold Sm
  have e : ((2 ^ m : Nat) : Int) = 2 ^ m := by rw [Int.natCast_pow]; rfl
  omega
theorem Sm.mulU {m k : Nat} {x y : Int} (h : Sm m x) (g : Sm k y) (e : m + k ≤ 1000000) (hm : 0 < m) (hk : 0 < k) : HX.CMulU x y := HX.CMulU.w (by have := h.log hm; have := g.log hk; omega)
def spd_raised (ds : List HD.D) (n : Nat) (Q : HD.I → Nat → Prop) (_ : HD.XD) : Prop := ∃ (x k : Int), ds = [.int x, .int k] ∧ ((0 ≤ k ∧ k ≤ 80) ∧ Sm 400 x) ∧ Q (.v (.int (x ^ k.toNat))) n
theorem use_raised {x k : Int} {n : Nat} {Q : HD.I → Nat → Prop} {E : HD.XD} (h : (0 ≤ k ∧ k ≤ 80) ∧ Sm 400 x) (q : Q (.v (.int (x ^ k.toNat))) n) : spd_raised [.int x, .int k] n Q E := ⟨x, k, rfl, h, q⟩
theorem ok_raised (T : Tx P K mg) : FnOk P w K mg base CX0 1 T.f_raised T.fd_raised ["number", "many"] (HD.lift K spd_raised) := by
  refine T.F_raised.ok sc_raised (fun vs H Q E h => ?_) (fun cdv A outer s H vs Q E hr h => ?_)
  · obtain ⟨cx, nn, args, Qd, Ed, hc, hsp⟩ := h
    obtain ⟨x, k, rfl, h, q⟩ := hsp
    exact hc.ra.len
  obtain ⟨cx, nn, args, Qd, Ed, hc, hsp⟩ := h
  obtain ⟨x, k, rfl, h, q⟩ := hsp
  refine ⟨_, (pss_cons (ps_set (i := 2) sc_raised.nd rfl (by first | exact .inl rfl | exact .inr rfl) pe_int)
      (pss_cons (ps_for PassesOwn.never (by rfl) (pi_range1 (by rfl) T.z_range (pa_cons (pv 1) pa_nil)) (pg_name (i := 3) sc_raised.nd rfl (by first | exact .inl rfl | exact .inr rfl)) (pss_one (ps_set (i := 2) sc_raised.nd rfl (by first | exact .inl rfl | exact .inr rfl) (pe_op op_mulU (pv 2) (pv 0)))))
      (pss_one (ps_ret (pv 2))))), HD.enter (ρ := [HD.S.v (.int x : HD.D), HD.S.v (.int k : HD.D), HD.S.un, HD.S.un]) hc rfl ?_⟩
  clear hc

  obtain ⟨hk, hx⟩ := h
  fail "dr"
  refine HD.ForD.inv (fun i ρ m => m = nn ∧ ∃ y, ρ = [.v (.int x), .v (.int k), .v (.int (x ^ i)), y]) ⟨rfl, .un, by rw [Int.pow_zero]⟩ (fun i d ρ m hd hi p => ?_) (fun ρ m p => ?_)
  · obtain ⟨rfl, y, rfl⟩ := p
    obtain ⟨hi2, _⟩ := HD.rngD_at hd
    fail "dr"
    refine HD.iC_ (((hx.pow (by omega) i).mono (k := 400 * 80 + 1) (by have : i ≤ 80 := by omega
                                                                       have := Nat.mul_le_mul_left 400 this
                                                                       omega)).mulU hx (by omega) (by omega) (by omega)) ?_
    fail "dr"
    exact ⟨rfl, _, by rw [Int.pow_succ]⟩
  · obtain ⟨rfl, y, rfl⟩ := p
    rw [HD.rngD_len]
    fail "dr"
    exact q
local macro_rules | `(tactic| fail "du") => `(tactic| ((with_reducible refine' use_raised ?h ?_); (case h => refine ⟨?_, ?_⟩ <;> first | assumption | (constructor <;> omega))))
def spd_is_row (ds : List HD.D) (n : Nat) (Q : HD.I → Nat → Prop) (_ : HD.XD) : Prop := ∃ (d : HD.D), ds = [d] ∧ (d.tn.isSome = true ∧ (∀ xs, d.seq = some xs → xs.length ≤ 1000 ∧ ∀ x ∈ xs, x.tn.isSome = true)) ∧ Q (.v (.bl ((d.seq.map fun xs => xs.all isI) == some true))) n
theorem use_is_row {d : HD.D} {n : Nat} {Q : HD.I → Nat → Prop} {E : HD.XD} (h : d.tn.isSome = true ∧ (∀ xs, d.seq = some xs → xs.length ≤ 1000 ∧ ∀ x ∈ xs, x.tn.isSome = true)) (q : Q (.v (.bl ((d.seq.map fun xs => xs.all isI) == some true))) n) : spd_is_row [d] n Q E := ⟨d, rfl, h, q⟩
theorem ok_is_row (T : Tx P K mg) : FnOk P w K mg base CX0 2 T.f_is_row T.fd_is_row ["value"] (HD.lift K spd_is_row) := by
  refine T.F_is_row.ok sc_is_row (fun vs H Q E h => ?_) (fun cdv A outer s H vs Q E hr h => ?_)
  · obtain ⟨cx, nn, args, Qd, Ed, hc, hsp⟩ := h
    obtain ⟨d, rfl, h, q⟩ := hsp
    exact hc.ra.len
  obtain ⟨cx, nn, args, Qd, Ed, hc, hsp⟩ := h
  obtain ⟨d, rfl, h, q⟩ := hsp
  refine ⟨_, (pss_one (ps_ret (pe_and (pe_callB (HD.call_isiTU (K := K)) (by rfl) T.z_isinstance (by decide +kernel) (pa_cons (pv 0) (pa_cons (pe_tup (pa_cons (pe_bltn (v := .ty "list") (by rfl) T.z_list (by decide +kernel) rfl) (pa_cons (pe_bltn (v := .ty "tuple") (by rfl) T.z_tuple (by decide +kernel) rfl) pa_nil))) pa_nil))) (pe_one (pe_callB (cr_allK (K := K) (by rfl)) (by rfl) T.z_all (by decide +kernel) (pa_cons (pe_lc (own := [("part", 1)]) (g := gName 1) (tt := tYes) (by rfl) sc_is_row.nd (HC.pi_seqK (K := K) (pv 0)) (blkOk_by (own := [("part", 1)]) (N := n_is_row) (sc := defScope s_is_row) (by decide +kernel)) (fun _ _ _ _ _ => (pg_name (i := 1) sc_is_row.nd rfl (by first | exact .inl rfl | exact .inr rfl))) (fun _ _ _ _ _ => pts_nil) (fun _ _ _ _ _ => (pe_call (ok_is_integer T) (hr.mono (by decide)) (by rfl) T.g_is_integer T.F_is_integer.kp T.b_is_integer .nil pass0 (pa_cons (pv 1) pa_nil)))) pa_nil)))))), HD.enter (ρ := [HD.S.v (d : HD.D), HD.S.un]) hc rfl ?_⟩
  clear hc

  obtain ⟨h1, h2⟩ := h
  obtain ⟨t, et⟩ := Option.isSome_iff_exists.mp h1
  fail "dr"
  refine HD.isiTB_ (it := .v d) et rfl (HD.sq_kit et) ?_
  fail "dr"
  cases d with
  | lst xs =>
    obtain ⟨hl, hx⟩ := h2 xs rfl
    refine HX.iteT_ rfl ?_
    fail "dr"
    refine HD.iseqL_ ?_
    fail "dr"
    refine HD.CpD.mapD (fun d => .bl (isI d)) (by omega) (fun x hx2 ys => ?_) ?_
    · have := hx x hx2
      fail "dr"
      exact ⟨rfl, rfl, rfl⟩
    · fail "dr"
      refine HD.all_ (it := .o (.lst (xs.map fun d => .bl (isI d)))) (bs := xs.map isI) (by show HD.D.lst _ = _; rw [List.map_map]; rfl) ?_
      fail "dr"
      rw [show ((xs.map isI).all id) = (Option.map (fun xs => xs.all isI) (HD.D.lst xs).seq == some true) from by rw [List.all_map]; show _ = (some _ == some true); cases h : xs.all isI <;> simp [Function.comp_def, h]]
      exact q
  | tup xs =>
    obtain ⟨hl, hx⟩ := h2 xs rfl
    refine HX.iteT_ rfl ?_
    fail "dr"
    refine HD.iseqT_ ?_
    fail "dr"
    refine HD.CpD.mapD (fun d => .bl (isI d)) (by omega) (fun x hx2 ys => ?_) ?_
    · have := hx x hx2
      fail "dr"
      exact ⟨rfl, rfl, rfl⟩
    · fail "dr"
      refine HD.all_ (it := .o (.lst (xs.map fun d => .bl (isI d)))) (bs := xs.map isI) (by show HD.D.lst _ = _; rw [List.map_map]; rfl) ?_
      fail "dr"
      rw [show ((xs.map isI).all id) = (Option.map (fun xs => xs.all isI) (HD.D.tup xs).seq == some true) from by rw [List.all_map]; show _ = (some _ == some true); cases h : xs.all isI <;> simp [Function.comp_def, h]]
      exact q
  | _ => exact q
local macro_rules | `(tactic| fail "du") => `(tactic| ((with_reducible refine' use_is_row ?h ?_); (case h => assumption)))
theorem prod2_bd {x y : Int} {m n : Nat} (hx : 0 ≤ x ∧ x ≤ m) (hy : 0 ≤ y ∧ y ≤ n) : 0 ≤ x * y ∧ x * y ≤ ((m * n : Nat) : Int) := by
  refine ⟨Int.mul_nonneg hx.1 hy.1, ?_⟩
  rw [Int.natCast_mul]
  exact Int.mul_le_mul hx.2 hy.2 hy.1 (by omega)
theorem prod3_bd {x y z : Int} (hx : 1 ≤ x ∧ x ≤ 1000000) (hy : 1 ≤ y ∧ y ≤ 1000000) (hz : 1 ≤ z ∧ z ≤ 1000000) : -(2 ^ 64) < x * y * z ∧ x * y * z < 2 ^ 64 := by
  have h1 := prod2_bd (x := x) (y := y) (m := 1000000) (n := 1000000) (by omega) (by omega)
  have h2 := prod2_bd (x := x * y) (y := z) (m := 1000000 * 1000000) (n := 1000000) h1 (by omega)
  constructor <;> omega
/-- what lifted tells -/
def lift (a b c d p : Int) : List Int := if p < 0 then [(b * c * d) ^ (-p).toNat, (a * c * d) ^ (-p).toNat, (a * b * d) ^ (-p).toNat, (a * b * c) ^ (-p).toNat] else [a ^ p.toNat, b ^ p.toNat, c ^ p.toNat, d ^ p.toNat]
def S (a b c d p : Int) : Int := if p < 0 then (b * c * d) ^ (-p).toNat + (a * b * c) ^ (-p).toNat - (a * c * d) ^ (-p).toNat - (a * b * d) ^ (-p).toNat else a ^ p.toNat + d ^ p.toNat - b ^ p.toNat - c ^ p.toNat
structure Ok4 (a b c d : Int) : Prop where
  a : 1 ≤ a ∧ a ≤ 1000000
  b : 1 ≤ b ∧ b ≤ 1000000
  c : 1 ≤ c ∧ c ≤ 1000000
  d : 1 ≤ d ∧ d ≤ 1000000
def liftD (a b c d p : Int) : List HD.D := (lift a b c d p).map HD.D.int
def spd_lifted (ds : List HD.D) (n : Nat) (Q : HD.I → Nat → Prop) (_ : HD.XD) : Prop := ∃ (a b c d p : Int), ds = [.int a, .int b, .int c, .int d, .int p] ∧ (Ok4 a b c d ∧ (-80 ≤ p ∧ p ≤ 80)) ∧ Q (.o (.lst (liftD a b c d p))) n
theorem use_lifted {a b c d p : Int} {n : Nat} {Q : HD.I → Nat → Prop} {E : HD.XD} (h : Ok4 a b c d ∧ (-80 ≤ p ∧ p ≤ 80)) (q : Q (.o (.lst (liftD a b c d p))) n) : spd_lifted [.int a, .int b, .int c, .int d, .int p] n Q E := ⟨a, b, c, d, p, rfl, h, q⟩
theorem ok_lifted (T : Tx P K mg) : FnOk P w K mg base CX0 2 T.f_lifted T.fd_lifted ["a", "b", "c", "d", "power"] (HD.lift K spd_lifted) := by
  refine T.F_lifted.ok sc_lifted (fun vs H Q E h => ?_) (fun cdv A outer s H vs Q E hr h => ?_)
  · obtain ⟨cx, nn, args, Qd, Ed, hc, hsp⟩ := h
    obtain ⟨a, b, c, d, p, rfl, h, q⟩ := hsp
    exact hc.ra.len
  obtain ⟨cx, nn, args, Qd, Ed, hc, hsp⟩ := h
  obtain ⟨a, b, c, d, p, rfl, h, q⟩ := hsp
  refine ⟨_, (pss_cons (ps_if (pt_cmpR op_lt (pv 4) pe_int (nomark _)) (pss_one (ps_ret (pe_lc (own := [("number", 5)]) (g := gName 5) (tt := tYes) (by rfl) sc_lifted.nd (pi_tupK (K := K) (pe_tup (pa_cons (pe_op op_mulU (pe_op op_mulU (pv 1) (pv 2)) (pv 3)) (pa_cons (pe_op op_mulU (pe_op op_mulU (pv 0) (pv 2)) (pv 3)) (pa_cons (pe_op op_mulU (pe_op op_mulU (pv 0) (pv 1)) (pv 3)) (pa_cons (pe_op op_mulU (pe_op op_mulU (pv 0) (pv 1)) (pv 2)) pa_nil)))))) (blkOk_by (own := [("number", 5)]) (N := n_lifted) (sc := defScope s_lifted) (by decide +kernel)) (fun _ _ _ _ _ => (pg_name (i := 5) sc_lifted.nd rfl (by first | exact .inl rfl | exact .inr rfl))) (fun _ _ _ _ _ => pts_nil) (fun _ _ _ _ _ => (pe_call (ok_raised T) (hr.mono (by decide)) (by rfl) T.g_raised T.F_raised.kp T.b_raised .nil pass0 (pa_cons (pv 5) (pa_cons (pe_un un_neg (pv 4)) pa_nil))))))) pss_nil)
      (pss_one (ps_ret (pe_lc (own := [("number", 5)]) (g := gName 5) (tt := tYes) (by rfl) sc_lifted.nd (pi_tupK (K := K) (pe_tup (pa_cons (pv 0) (pa_cons (pv 1) (pa_cons (pv 2) (pa_cons (pv 3) pa_nil)))))) (blkOk_by (own := [("number", 5)]) (N := n_lifted) (sc := defScope s_lifted) (by decide +kernel)) (fun _ _ _ _ _ => (pg_name (i := 5) sc_lifted.nd rfl (by first | exact .inl rfl | exact .inr rfl))) (fun _ _ _ _ _ => pts_nil) (fun _ _ _ _ _ => (pe_call (ok_raised T) (hr.mono (by decide)) (by rfl) T.g_raised T.F_raised.kp T.b_raised .nil pass0 (pa_cons (pv 5) (pa_cons (pv 4) pa_nil)))))))), HD.enter (ρ := [HD.S.v (.int a : HD.D), HD.S.v (.int b : HD.D), HD.S.v (.int c : HD.D), HD.S.v (.int d : HD.D), HD.S.v (.int p : HD.D), HD.S.un]) hc rfl ?_⟩
  clear hc

  obtain ⟨⟨ha, hb, hc, hd⟩, hp⟩ := h
  have b1 := prod3_bd hb hc hd
  have b2 := prod3_bd ha hc hd
  have b3 := prod3_bd ha hb hd
  have b4 := prod3_bd ha hb hc
  have s1 : Sm 400 (b * c * d) := (Sm.of (m := 64) b1).mono (by omega)
  have s2 : Sm 400 (a * c * d) := (Sm.of (m := 64) b2).mono (by omega)
  have s3 : Sm 400 (a * b * d) := (Sm.of (m := 64) b3).mono (by omega)
  have s4 : Sm 400 (a * b * c) := (Sm.of (m := 64) b4).mono (by omega)
  have s5 : Sm 400 a := (Sm.of (m := 64) (by omega)).mono (by omega)
  have s6 : Sm 400 b := (Sm.of (m := 64) (by omega)).mono (by omega)
  have s7 : Sm 400 c := (Sm.of (m := 64) (by omega)).mono (by omega)
  have s8 : Sm 400 d := (Sm.of (m := 64) (by omega)).mono (by omega)
  fail "dr"
  refine HX.ited_ (fun h => ?_) (fun h => ?_)
  · have e : liftD a b c d p = _ := congrArg (List.map HD.D.int) (if_pos h)
    rw [e] at q
    fail "dr"
    exact q
  · have e : liftD a b c d p = _ := congrArg (List.map HD.D.int) (if_neg h)
    rw [e] at q
    fail "dr"
    exact q
local macro_rules | `(tactic| fail "du") => `(tactic| ((with_reducible refine' use_lifted ?h ?_); (case h => first | assumption | (refine ⟨by assumption, ?_⟩; first | assumption | (constructor <;> omega)))))
def spd_sum_at (ds : List HD.D) (n : Nat) (Q : HD.I → Nat → Prop) (_ : HD.XD) : Prop := ∃ (a b c d p : Int), ds = [.int a, .int b, .int c, .int d, .int p] ∧ (Ok4 a b c d ∧ (-80 ≤ p ∧ p ≤ 80)) ∧ Q (.v (.int (S a b c d p))) n
theorem use_sum_at {a b c d p : Int} {n : Nat} {Q : HD.I → Nat → Prop} {E : HD.XD} (h : Ok4 a b c d ∧ (-80 ≤ p ∧ p ≤ 80)) (q : Q (.v (.int (S a b c d p))) n) : spd_sum_at [.int a, .int b, .int c, .int d, .int p] n Q E := ⟨a, b, c, d, p, rfl, h, q⟩
theorem ok_sum_at (T : Tx P K mg) : FnOk P w K mg base CX0 3 T.f_sum_at T.fd_sum_at ["a", "b", "c", "d", "power"] (HD.lift K spd_sum_at) := by
  refine T.F_sum_at.ok sc_sum_at (fun vs H Q E h => ?_) (fun cdv A outer s H vs Q E hr h => ?_)
  · obtain ⟨cx, nn, args, Qd, Ed, hc, hsp⟩ := h
    obtain ⟨a, b, c, d, p, rfl, h, q⟩ := hsp
    exact hc.ra.len
  obtain ⟨cx, nn, args, Qd, Ed, hc, hsp⟩ := h
  obtain ⟨a, b, c, d, p, rfl, h, q⟩ := hsp
  refine ⟨_, (pss_cons (ps_asg (pe_call (ok_lifted T) (hr.mono (by decide)) (by rfl) T.g_lifted T.F_lifted.kp T.b_lifted .nil pass0 (pa_cons (pv 0) (pa_cons (pv 1) (pa_cons (pv 2) (pa_cons (pv 3) (pa_cons (pv 4) pa_nil)))))) (pg_unlK (K := K) 4 (by rfl) (pgs_cons (pg_name (i := 5) sc_sum_at.nd rfl (by first | exact .inl rfl | exact .inr rfl)) (pgs_cons (pg_name (i := 6) sc_sum_at.nd rfl (by first | exact .inl rfl | exact .inr rfl)) (pgs_cons (pg_name (i := 7) sc_sum_at.nd rfl (by first | exact .inl rfl | exact .inr rfl)) (pgs_cons (pg_name (i := 8) sc_sum_at.nd rfl (by first | exact .inl rfl | exact .inr rfl)) pgs_nil))))))
      (pss_one (ps_ret (pe_op op_sub (pe_op op_sub (pe_op (op_addK (K := K)) (pv 5) (pv 8)) (pv 6)) (pv 7))))), HD.enter (ρ := [HD.S.v (.int a : HD.D), HD.S.v (.int b : HD.D), HD.S.v (.int c : HD.D), HD.S.v (.int d : HD.D), HD.S.v (.int p : HD.D), HD.S.un, HD.S.un, HD.S.un, HD.S.un]) hc rfl ?_⟩
  clear hc

  fail "dr"
  unfold S at q
  unfold liftD lift
  by_cases h1 : p < 0
  · rw [if_pos h1] at q ⊢
    fail "dr"
    exact q
  · rw [if_neg h1] at q ⊢
    fail "dr"
    exact q
local macro_rules | `(tactic| fail "du") => `(tactic| ((with_reducible refine' use_sum_at ?h ?_); (case h => first | assumption | (refine ⟨by assumption, ?_⟩; first | assumption | (constructor <;> omega)))))
def By (a b c d p : Int) : Bool := if p = 0 then decide (a * d = b * c) else decide (S a b c d p = 0)
theorem Ok4.bd {a b c d : Int} (h : Ok4 a b c d) : (1 ≤ a ∧ a ≤ 1000000) ∧ (1 ≤ b ∧ b ≤ 1000000) ∧ (1 ≤ c ∧ c ≤ 1000000) ∧ (1 ≤ d ∧ d ≤ 1000000) := ⟨h.a, h.b, h.c, h.d⟩
def spd_holds_by (ds : List HD.D) (n : Nat) (Q : HD.I → Nat → Prop) (_ : HD.XD) : Prop := ∃ (a b c d p : Int), ds = [.int a, .int b, .int c, .int d, .int p] ∧ (Ok4 a b c d ∧ (-80 ≤ p ∧ p ≤ 80)) ∧ Q (.v (.bl (By a b c d p))) n
theorem use_holds_by {a b c d p : Int} {n : Nat} {Q : HD.I → Nat → Prop} {E : HD.XD} (h : Ok4 a b c d ∧ (-80 ≤ p ∧ p ≤ 80)) (q : Q (.v (.bl (By a b c d p))) n) : spd_holds_by [.int a, .int b, .int c, .int d, .int p] n Q E := ⟨a, b, c, d, p, rfl, h, q⟩
theorem ok_holds_by (T : Tx P K mg) : FnOk P w K mg base CX0 4 T.f_holds_by T.fd_holds_by ["a", "b", "c", "d", "power"] (HD.lift K spd_holds_by) := by
  refine T.F_holds_by.ok sc_holds_by (fun vs H Q E h => ?_) (fun cdv A outer s H vs Q E hr h => ?_)
  · obtain ⟨cx, nn, args, Qd, Ed, hc, hsp⟩ := h
    obtain ⟨a, b, c, d, p, rfl, h, q⟩ := hsp
    exact hc.ra.len
  obtain ⟨cx, nn, args, Qd, Ed, hc, hsp⟩ := h
  obtain ⟨a, b, c, d, p, rfl, h, q⟩ := hsp
  refine ⟨_, (pss_one (ps_ret (pe_ifExp (pt_cmpR (op_eqK (K := K) hr.units) (pv 4) pe_int (nomark _)) (pe_cmpR (op_eqK (K := K) hr.units) (pe_op op_mulU (pv 0) (pv 3)) (pe_op op_mulU (pv 1) (pv 2)) (nomark _)) (pe_cmpR (op_eqK (K := K) hr.units) (pe_call (ok_sum_at T) (hr.mono (by decide)) (by rfl) T.g_sum_at T.F_sum_at.kp T.b_sum_at .nil pass0 (pa_cons (pv 0) (pa_cons (pv 1) (pa_cons (pv 2) (pa_cons (pv 3) (pa_cons (pv 4) pa_nil)))))) pe_int (nomark _))))), HD.enter (ρ := [HD.S.v (.int a : HD.D), HD.S.v (.int b : HD.D), HD.S.v (.int c : HD.D), HD.S.v (.int d : HD.D), HD.S.v (.int p : HD.D)]) hc rfl ?_⟩
  clear hc

  have bd := h.1.bd
  unfold By at q
  fail "dr"
  refine HX.ited_ (fun h1 => ?_) (fun h1 => ?_)
  · rw [if_pos h1] at q
    fail "dr"
    exact q
  · rw [if_neg h1] at q
    fail "dr"
    exact q
local macro_rules | `(tactic| fail "du") => `(tactic| ((with_reducible refine' use_holds_by ?h ?_); (case h => first | assumption | (refine ⟨by assumption, ?_⟩; first | assumption | (constructor <;> omega)))))
theorem ok__law_hat (T : Tx P K mg) : FnOk P w K mg base CX0 1 T.f__law_hat T.fd__law_hat ["script"] (HD.spV_hat K) := by
  refine T.F__law_hat.ok sc__law_hat (fun vs H Q E h => ?_) (fun cdv A outer s H vs Q E hr h => ?_)
  · obtain ⟨a, ns, rfl, hS, hl, q⟩ := h; rfl
  obtain ⟨a, ns, rfl, hS, hl, q⟩ := h
  refine ⟨_, (pss_one (ps_ret (pe_lst (pa_cons (pe_lc (own := [("cell", 1)]) (g := gName 1) (tt := tYes) (by rfl) sc__law_hat.nd (pi_listK (K := K) (pe_slice (sl_K (K := K)) (pv 0) po_none (po_some pe_int))) (blkOk_by (own := [("cell", 1)]) (N := n__law_hat) (sc := defScope s__law_hat) (by decide +kernel)) (fun _ _ _ _ _ => (pg_name (i := 1) sc__law_hat.nd rfl (by first | exact .inl rfl | exact .inr rfl))) (fun _ _ _ _ _ => pts_nil) (fun _ _ _ _ _ => (pe_callTy call_intU (by rfl) T.z_int (by decide +kernel) (pa_cons (pv 1) pa_nil)))) (pa_cons pe_int (pa_cons pe_int pa_nil)))))), ?_⟩
  refine HX.start_ (σ := [some (.ref a : V), none]) rfl ?_
  fail "hr"
  refine HX.slL_ hS ?_
  intro p hp
  rw [show ((60 : Int)) = ((60 : Nat) : Int) from rfl, HX.cut_to, ← List.map_take]
  refine ⟨p, rfl, ⟨_, SqL.of upd_same⟩, ?_⟩
  intro D hD
  refine HX.lcLp (xs := (ns.take 60).map V.int) id (SqL.of upd_same) hD (Nat.ble_eq_true_of_le ?_) (fun _ => rfl) (fun i x H' R hx e k => ?_) (fun H' e hL => ?_)
  · rw [List.length_map, List.length_take]; omega
  · obtain ⟨z, rfl⟩ : ∃ z, x = .int z := by
      rw [List.getElem?_map] at hx
      cases e : (ns.take 60)[i]? with
      | none => rw [e] at hx; cases hx
      | some z => rw [e] at hx; exact ⟨z, (Option.some.inj hx).symm⟩
    fail "hw"
    fail "hr"
    exact k _ (Same.refl _)
  · fail "hr"
    intro u hu
    rw [List.map_id] at hL
    have s1 : Same H H' := (HX.same_new hp).trans e
    refine q u D (ns.take 60) _ (s1.trans (HX.same_new hu)) (s1.free hu) ⟨⟨0, 0, upd_same, by omega, by omega⟩, ne_of_none hL hu, ?_, ?_⟩
    · rw [upd_ne (ne_of_none hL hu)]; exact hL
    · rw [List.length_take]; omega
theorem okV__law_lot (T : Tx P K mg) : FnOk P w K mg base CX0 1 T.f__law_lot T.fd__law_lot ["hat", "many"] HD.spV_lot := by
  refine T.F__law_lot.ok sc__law_lot (fun vs H Q E h => ?_) (fun cdv A outer s H vs Q E hr h => ?_)
  · obtain ⟨a, m, c, ns, n, rfl, hh, hn, hm, hm2, q⟩ := h; rfl
  obtain ⟨a, m, c, ns, n, rfl, hh, hn, hm, hm2, q⟩ := h
  refine ⟨_, (pss_cons (ps_if (pt_cmpR op_gt (pe_ix (ix_K (K := K)) (pv 0) pe_int (fun _ _ => rfl)) pe_int (nomark _)) (pss_cons (ps_set (i := 2) sc__law_lot.nd rfl (by first | exact .inl rfl | exact .inr rfl) (pe_op op_modU (pe_callTy call_intU (by rfl) T.z_int (by decide +kernel) (pa_cons (pe_ix (ix_K (K := K)) (pv 0) pe_int (fun _ _ => rfl)) pa_nil)) (pv 1)))
      (pss_cons (ps_asg (pe_op op_fdivU (pe_callTy call_intU (by rfl) T.z_int (by decide +kernel) (pa_cons (pe_ix (ix_K (K := K)) (pv 0) pe_int (fun _ _ => rfl)) pa_nil)) (pv 1)) (pg_sub (pv 0) pe_int set_list))
      (pss_one (ps_ret (pv 2))))) pss_nil)
      (pss_cons (ps_set (i := 3) sc__law_lot.nd rfl (by first | exact .inl rfl | exact .inr rfl) (pe_ix (ix_K (K := K)) (pv 0) pe_int (fun _ _ => rfl)))
      (pss_cons (ps_asg (pe_op (op_addK (K := K)) (pv 3) pe_int) (pg_sub (pv 0) pe_int set_list))
      (pss_cons (ps_set (i := 4) sc__law_lot.nd rfl (by first | exact .inl rfl | exact .inr rfl) (pe_op (op_addK (K := K)) (pe_op op_mulU pe_int (pv 3)) pe_int))
      (Evl.pss_cut (ps_if (pt_cmpR (op_neK (K := K) hr.units) (pe_ix (ix_K (K := K)) (pv 0) pe_int (fun _ _ => rfl)) (pe_lst pa_nil) (nomark _)) (pss_one (ps_set (i := 4) sc__law_lot.nd rfl (by first | exact .inl rfl | exact .inr rfl) (pe_ix (ix_K (K := K)) (pe_ix (ix_K (K := K)) (pv 0) pe_int (fun _ _ => rfl)) (pe_op op_modU (pe_callTy call_intU (by rfl) T.z_int (by decide +kernel) (pa_cons (pv 3) pa_nil)) (pe_callB (call_lenK (K := K)) (by rfl) T.z_len (by decide +kernel) (pa_cons (pe_ix (ix_K (K := K)) (pv 0) pe_int (fun _ _ => rfl)) pa_nil))) (fun _ _ => rfl)))) pss_nil)
      (Evl.pss_cut (ps_if (PW.pt (pw_and (pt_cmpR op_lt (pv 3) (pe_callB (call_lenK (K := K)) (by rfl) T.z_len (by decide +kernel) (pa_cons (pe_ix (ix_K (K := K)) (pv 0) pe_int (fun _ _ => rfl)) pa_nil)) (nomark _)) (pw_and1 (pt_cmpR op_ge (pe_callB call_absU (by rfl) T.z_abs (by decide +kernel) (pa_cons (pv 4) pa_nil)) (pe_op op_pow pe_int pe_int) (nomark _))))) (pss_cons (ps_set (i := 5) sc__law_lot.nd rfl (by first | exact .inl rfl | exact .inr rfl) (pe_op (op_addK (K := K)) (pe_op op_mulU pe_int (pe_op op_sub (pe_callB call_absU (by rfl) T.z_abs (by decide +kernel) (pa_cons (pv 4) pa_nil)) (pe_op op_pow pe_int pe_int))) (pe_callTy call_intU (by rfl) T.z_int (by decide +kernel) (pa_cons (pe_cmpR op_lt (pv 4) pe_int (nomark _)) pa_nil))))
      (pss_cons (ps_asg (pe_op op_fdivU (pe_callTy call_intU (by rfl) T.z_int (by decide +kernel) (pa_cons (pv 5) pa_nil)) (pv 1)) (pg_sub (pv 0) pe_int set_list))
      (pss_one (ps_ret (pe_op op_modU (pe_callTy call_intU (by rfl) T.z_int (by decide +kernel) (pa_cons (pv 5) pa_nil)) (pv 1)))))) pss_nil)
      (pss_cons (ps_set (i := 6) sc__law_lot.nd rfl (by first | exact .inl rfl | exact .inr rfl) (pe_op op_modU (pe_callTy call_intU (by rfl) T.z_int (by decide +kernel) (pa_cons (pe_op op_pow (pe_op (op_addK (K := K)) (pe_op (op_addK (K := K)) (pe_op op_modU (pe_callTy call_intU (by rfl) T.z_int (by decide +kernel) (pa_cons (pv 4) pa_nil)) pe_int) (pe_op op_mulU pe_int (pv 3))) pe_int) pe_int) pa_nil)) pe_int))
      (pss_cons (ps_set (i := 6) sc__law_lot.nd rfl (by first | exact .inl rfl | exact .inr rfl) (pe_op op_modU (pe_callTy call_intU (by rfl) T.z_int (by decide +kernel) (pa_cons (pe_op op_pow (pe_op (op_addK (K := K)) (pe_op (op_addK (K := K)) (pe_op op_mulU (pv 6) (pe_op (op_addK (K := K)) (pe_op op_mulU pe_int (pv 3)) pe_int)) (pe_op op_mulU (pe_op op_mulU pe_int (pv 3)) (pv 3))) pe_int) pe_int) pa_nil)) pe_int))
      (pss_one (ps_ret (pe_op op_modU (pe_callTy call_intU (by rfl) T.z_int (by decide +kernel) (pa_cons (pe_op op_fdivU (pv 6) pe_int) pa_nil)) (pv 1)))))))))))), ?_⟩
  refine HX.start_ (σ := [some (.ref a : V), some (.int m : V), none, none, none, none, none]) rfl ?_
  obtain ⟨⟨t, r, hA, ht0, ht1⟩, hca, hC, hle⟩ := id hh
  fail "hr"
  refine HX.ixL_ (SqL.of hA) rfl ?_
  fail "hr"
  refine HX.ited_ (fun h => ?_) (fun h => ?_)
  · fail "hr"
    refine HX.ixL_ (SqL.of hA) rfl ?_
    fail "hr"
    intro d _ hd0 hd1
    fail "hr"
    refine HX.ixL_ (SqL.of hA) rfl ?_
    fail "hr"
    refine HX.setL_ hA rfl ?_
    fail "hr"
    exact q d _ hd0 hd1 (kept_upd (Kept.refl _ _)) ⟨⟨_, _, upd_same, ht0, by omega⟩, hca, by rw [upd_ne hca]; exact hC, hle⟩
  · fail "hr"
    refine HX.ixL_ (SqL.of hA) rfl ?_
    fail "hr"
    refine HX.setL_ (j := 1) hA rfl ?_
    fail "hr"
    rw [show [V.ref c, V.int t, V.int r].set 1 (V.int (t + 1)) = [V.ref c, V.int (t + 1), V.int r] from rfl]
    have hA2 : (upd H a (.lst [V.ref c, V.int (t + 1), V.int r])) a = some (.lst [V.ref c, V.int (t + 1), V.int r]) := upd_same
    have hC2 : (upd H a (.lst [V.ref c, V.int (t + 1), V.int r])) c = some (.lst (ns.map V.int)) := by rw [upd_ne hca]; exact hC
    have hk2 : Kept a H (upd H a (.lst [V.ref c, V.int (t + 1), V.int r])) := kept_upd (Kept.refl _ _)
    generalize (upd H a (.lst [V.ref c, V.int (t + 1), V.int r])) = G at hA2 hC2 hk2 ⊢
    refine HX.cut_ (fun σ' H' => ∃ cell : Int, σ' = [some (V.ref a), some (V.int m), none, some (V.int t), some (V.int cell), none, none] ∧ Kept a H H' ∧ H' a = some (.lst [V.ref c, V.int (t + 1), V.int r]) ∧ H' c = some (.lst (ns.map V.int))) ?_ ?_
    · fail "hr"
      refine HX.ixL_ (SqL.of hA2) rfl ?_
      fail "hr"
      intro e he
      refine HX.ne_nil_ (SqL.of (by rw [upd_ne (ne_of_none hC2 he)]; exact hC2)) (SqL.of upd_same) ?_
      fail "hr"
      have hA3 : (upd G e (.lst [])) a = some (.lst [V.ref c, V.int (t + 1), V.int r]) := by rw [upd_ne (ne_of_none hA2 he)]; exact hA2
      have hC3 : (upd G e (.lst [])) c = some (.lst (ns.map V.int)) := by rw [upd_ne (ne_of_none hC2 he)]; exact hC2
      have hk3 : Kept a H (upd G e (.lst [])) := kept_new hk2 he
      generalize (upd G e (.lst [])) = G3 at hA3 hC3 hk3 ⊢
      cases hns : ns with
      | nil =>
        refine HX.iteF_ rfl ?_
        fail "hr"
        exact ⟨_, rfl, hk3, hA3, by rw [← hns]; exact hC3⟩
      | cons x xs =>
        refine HX.iteT_ rfl ?_
        rw [hns] at hC3
        fail "hr"
        refine HX.ixL_ (SqL.of hA3) rfl ?_
        fail "hr"
        refine HX.ixL_ (SqL.of hA3) rfl ?_
        fail "hr"
        refine HX.len_l_ (SqL.of hC3) ?_
        rw [List.length_map]
        refine HX.mod_ (by rw [List.length_cons]; omega) fun z _ hz0 hz1 => ?_
        obtain ⟨v, hv⟩ := HX.at_int hz0 hz1
        refine HX.ixL_ (SqL.of hC3) hv ?_
        fail "hr"
        exact ⟨_, rfl, hk3, hA3, hC3⟩
    · rintro σ' H' ⟨cell, rfl, hk, hA', hC'⟩
      have hat' : ∀ H2 r2, Kept a H' H2 → H2 a = some (.lst [V.ref c, V.int (t + 1), V.int r2]) → Hat H2 a c ns (n + 1) := fun H2 r2 k2 e2 => ⟨⟨t + 1, r2, e2, by omega, by omega⟩, hca, k2 _ _ hca hC', hle⟩
      refine HX.cut_ (fun σ2 H2 => σ2 = [some (V.ref a), some (V.int m), none, some (V.int t), some (V.int cell), none, none] ∧ H2 = H') ?_ ?_
      · fail "hr"
        refine HX.ixL_ (SqL.of hA') rfl ?_
        fail "hr"
        refine HX.len_l_ (SqL.of hC') ?_
        fail "hr"
        refine HX.ited_ (fun h1 => ?_) (fun h1 => ?_)
        · fail "hr"
          refine HX.ited_ (fun h2 => ?_) (fun h2 => ?_)
          · fail "hr"
            refine HX.setL_ (j := 2) hA' rfl ?_
            fail "hr"
            intro d _ hd0 hd1
            exact q d _ hd0 hd1 (kept_upd hk) (hat' _ _ (kept_upd (Kept.refl _ _)) upd_same)
          · fail "hr"
            exact ⟨rfl, rfl⟩
        · fail "hr"
          exact ⟨rfl, rfl⟩
      · rintro σ2 H2 ⟨rfl, rfl⟩
        fail "hr"
        intro z _ hz0 hz1
        fail "hr"
        intro y _ hy0 hy1
        fail "hr"
        have b1 := prod2_bd (x := y) (y := 2 * t + 1997) (m := 2147483647) (n := 300000) (by omega) (by omega)
        have b2 := prod2_bd (x := 72019 * t) (y := t) (m := 72019 * 100000) (n := 100000) (by omega) (by omega)
        fail "hr"
        intro x _ hx0 hx1
        fail "hr"
        intro d _ hd0 hd1
        exact q d _ hd0 hd1 hk (hat' _ _ (Kept.refl _ _) hA')
theorem ok__law_lot (T : Tx P K mg) : FnOk P w K mg base CX0 1 T.f__law_lot T.fd__law_lot ["hat", "many"] (HD.lift K HD.spd_lot) := (okV__law_lot T).imp HD.lot_bridge
local macro_rules | `(tactic| fail "du") => `(tactic| ((with_reducible refine HD.use_lot ?n ?m ?_); (case n => omega); (case m => constructor <;> omega)))
theorem ok__law_one (T : Tx P K mg) : FnOk P w K mg base CX0 2 T.f__law_one T.fd__law_one ["hat", "some"] (HD.lift K HD.spd_one) := by
  refine T.F__law_one.ok sc__law_one (fun vs H Q E h => ?_) (fun cdv A outer s H vs Q E hr h => ?_)
  · obtain ⟨cx, nn, args, Qd, Ed, hc, hsp⟩ := h
    obtain ⟨d, xs, rfl, e, hn, hl, q⟩ := hsp
    exact hc.ra.len
  obtain ⟨cx, nn, args, Qd, Ed, hc, hsp⟩ := h
  obtain ⟨d, xs, rfl, e, hn, hl, q⟩ := hsp
  refine ⟨_, (pss_one (ps_ret (pe_ix (ix_K (K := K)) (pv 1) (pe_call (ok__law_lot T) (hr.mono (by decide)) (by rfl) T.g__law_lot T.F__law_lot.kp T.b__law_lot .nil pass0 (pa_cons (pv 0) (pa_cons (pe_callB (call_lenK (K := K)) (by rfl) T.z_len (by decide +kernel) (pa_cons (pv 1) pa_nil)) pa_nil))) (fun _ _ => rfl)))), HD.enter (ρ := [HD.S.v (.hat : HD.D), HD.S.v (d : HD.D)]) hc rfl ?_⟩
  clear hc

  fail "dr"
  refine HD.len_ (xs := xs) e ?_
  fail "dr"
  intro z h0 h1
  obtain ⟨v, hv, hm⟩ := HD.atD_some h0 h1
  fail "dr"
  refine HD.ix_ (xs := xs) e hv ?_
  fail "dr"
  exact q v hm
/-- a number of the walk -/
theorem nm_sm {x : Int} (h : 1 ≤ x ∧ x < 2 ^ 80) : Sm 80 x := Sm.of ⟨by omega, h.2⟩
structure Ok3 (a b c : Int) : Prop where
  a : 1 ≤ a ∧ a < 2 ^ 80
  b : 1 ≤ b ∧ b < 2 ^ 80
  c : 1 ≤ c ∧ c < 2 ^ 80
structure WT where
  rest : Int
  part : Int
  many : Int
def WR (a b c p : Int) : WT := if p = 0 then ⟨b * c, a, 1⟩ else if p > 0 then ⟨b ^ p.toNat + c ^ p.toNat - a ^ p.toNat, 1, p⟩ else ⟨(a * b * c) ^ (-p).toNat, (a * c) ^ (-p).toNat + (a * b) ^ (-p).toNat - (b * c) ^ (-p).toNat, -p⟩
structure Sm3 (a b c : Int) : Prop where
  sa : Sm 400 a
  sb : Sm 400 b
  sc : Sm 400 c
  ab : Sm 400 (a * b)
  ac : Sm 400 (a * c)
  bc : Sm 400 (b * c)
  abc : Sm 400 (a * b * c)
theorem Ok3.sm {a b c : Int} (o : Ok3 a b c) : Sm3 a b c := by
  obtain ⟨ha, hb, hc⟩ := o
  have ha := nm_sm ha; have hb := nm_sm hb; have hc := nm_sm hc
  exact ⟨ha.mono (by omega), hb.mono (by omega), hc.mono (by omega), (ha.mul hb).mono (by omega), (ha.mul hc).mono (by omega), (hb.mul hc).mono (by omega), ((ha.mul hb).mul hc).mono (by omega)⟩
theorem CM {x y : Int} (h : Sm 400 x) (g : Sm 400 y) : HX.CMulU x y := h.mulU g (by omega) (by omega) (by omega)
local macro_rules | `(tactic| fail "uO") => `(tactic| ((with_reducible refine HD.iC_ ?c ?_); (case c => (refine CM ?_ ?_ <;> assumption))))
def spd_wanted (ds : List HD.D) (n : Nat) (Q : HD.I → Nat → Prop) (_ : HD.XD) : Prop := ∃ (a b c p : Int), ds = [.int a, .int b, .int c, .int p] ∧ (Ok3 a b c ∧ (-80 ≤ p ∧ p ≤ 80)) ∧ Q (.v (.tup [.int (WR a b c p).rest, .int (WR a b c p).part, .int (WR a b c p).many])) n
theorem use_wanted {a b c p : Int} {n : Nat} {Q : HD.I → Nat → Prop} {E : HD.XD} (h : Ok3 a b c ∧ (-80 ≤ p ∧ p ≤ 80)) (q : Q (.v (.tup [.int (WR a b c p).rest, .int (WR a b c p).part, .int (WR a b c p).many])) n) : spd_wanted [.int a, .int b, .int c, .int p] n Q E := ⟨a, b, c, p, rfl, h, q⟩
theorem ok_wanted (T : Tx P K mg) : FnOk P w K mg base CX0 2 T.f_wanted T.fd_wanted ["a", "b", "c", "power"] (HD.lift K spd_wanted) := by
  refine T.F_wanted.ok sc_wanted (fun vs H Q E h => ?_) (fun cdv A outer s H vs Q E hr h => ?_)
  · obtain ⟨cx, nn, args, Qd, Ed, hc, hsp⟩ := h
    obtain ⟨a, b, c, p, rfl, h, q⟩ := hsp
    exact hc.ra.len
  obtain ⟨cx, nn, args, Qd, Ed, hc, hsp⟩ := h
  obtain ⟨a, b, c, p, rfl, h, q⟩ := hsp
  refine ⟨_, (pss_cons (ps_if (pt_cmpR (op_eqK (K := K) hr.units) (pv 3) pe_int (nomark _)) (pss_one (ps_ret (pe_tup (pa_cons (pe_op op_mulU (pv 1) (pv 2)) (pa_cons (pv 0) (pa_cons pe_int pa_nil)))))) pss_nil)
      (pss_cons (ps_if (pt_cmpR op_gt (pv 3) pe_int (nomark _)) (pss_one (ps_ret (pe_tup (pa_cons (pe_op op_sub (pe_op (op_addK (K := K)) (pe_call (ok_raised T) (hr.mono (by decide)) (by rfl) T.g_raised T.F_raised.kp T.b_raised .nil pass0 (pa_cons (pv 1) (pa_cons (pv 3) pa_nil))) (pe_call (ok_raised T) (hr.mono (by decide)) (by rfl) T.g_raised T.F_raised.kp T.b_raised .nil pass0 (pa_cons (pv 2) (pa_cons (pv 3) pa_nil)))) (pe_call (ok_raised T) (hr.mono (by decide)) (by rfl) T.g_raised T.F_raised.kp T.b_raised .nil pass0 (pa_cons (pv 0) (pa_cons (pv 3) pa_nil)))) (pa_cons pe_int (pa_cons (pv 3) pa_nil)))))) pss_nil)
      (pss_cons (ps_set (i := 4) sc_wanted.nd rfl (by first | exact .inl rfl | exact .inr rfl) (pe_un un_neg (pv 3)))
      (pss_one (ps_ret (pe_tup (pa_cons (pe_call (ok_raised T) (hr.mono (by decide)) (by rfl) T.g_raised T.F_raised.kp T.b_raised .nil pass0 (pa_cons (pe_op op_mulU (pe_op op_mulU (pv 0) (pv 1)) (pv 2)) (pa_cons (pv 4) pa_nil))) (pa_cons (pe_op op_sub (pe_op (op_addK (K := K)) (pe_call (ok_raised T) (hr.mono (by decide)) (by rfl) T.g_raised T.F_raised.kp T.b_raised .nil pass0 (pa_cons (pe_op op_mulU (pv 0) (pv 2)) (pa_cons (pv 4) pa_nil))) (pe_call (ok_raised T) (hr.mono (by decide)) (by rfl) T.g_raised T.F_raised.kp T.b_raised .nil pass0 (pa_cons (pe_op op_mulU (pv 0) (pv 1)) (pa_cons (pv 4) pa_nil)))) (pe_call (ok_raised T) (hr.mono (by decide)) (by rfl) T.g_raised T.F_raised.kp T.b_raised .nil pass0 (pa_cons (pe_op op_mulU (pv 1) (pv 2)) (pa_cons (pv 4) pa_nil)))) (pa_cons (pv 4) pa_nil))))))))), HD.enter (ρ := [HD.S.v (.int a : HD.D), HD.S.v (.int b : HD.D), HD.S.v (.int c : HD.D), HD.S.v (.int p : HD.D), HD.S.un]) hc rfl ?_⟩
  clear hc

  obtain ⟨o, hp⟩ := h
  obtain ⟨h1, h2, h3, h4, h5, h6, h7⟩ := o.sm
  unfold WR at q
  fail "dr"
  refine HX.ited_ (fun h => ?_) (fun h => ?_)
  · rw [if_pos h] at q
    fail "dr"
    exact q
  · rw [if_neg h] at q
    fail "dr"
    refine HX.ited_ (fun h => ?_) (fun h => ?_)
    · rw [if_pos h] at q
      fail "dr"
      exact q
    · rw [if_neg h] at q
      fail "dr"
      exact q
local macro_rules | `(tactic| fail "du") => `(tactic| ((with_reducible refine' use_wanted ?h ?_); (case h => first | assumption | (refine ⟨by assumption, ?_⟩; first | assumption | (constructor <;> omega)))))
def spd__law_raised (ds : List HD.D) (n : Nat) (Q : HD.I → Nat → Prop) (_ : HD.XD) : Prop := ∃ (x k : Int), ds = [.int x, .int k] ∧ ((0 ≤ k ∧ k ≤ 80) ∧ Sm 400 x) ∧ Q (.v (.int (x ^ k.toNat))) n
theorem use__law_raised {x k : Int} {n : Nat} {Q : HD.I → Nat → Prop} {E : HD.XD} (h : (0 ≤ k ∧ k ≤ 80) ∧ Sm 400 x) (q : Q (.v (.int (x ^ k.toNat))) n) : spd__law_raised [.int x, .int k] n Q E := ⟨x, k, rfl, h, q⟩
theorem ok__law_raised (T : Tx P K mg) : FnOk P w K mg base CX0 1 T.f__law_raised T.fd__law_raised ["number", "many"] (HD.lift K spd__law_raised) := by
  refine T.F__law_raised.ok sc__law_raised (fun vs H Q E h => ?_) (fun cdv A outer s H vs Q E hr h => ?_)
  · obtain ⟨cx, nn, args, Qd, Ed, hc, hsp⟩ := h
    obtain ⟨x, k, rfl, h, q⟩ := hsp
    exact hc.ra.len
  obtain ⟨cx, nn, args, Qd, Ed, hc, hsp⟩ := h
  obtain ⟨x, k, rfl, h, q⟩ := hsp
  refine ⟨_, (pss_cons (ps_set (i := 2) sc__law_raised.nd rfl (by first | exact .inl rfl | exact .inr rfl) pe_int)
      (pss_cons (ps_for PassesOwn.never (by rfl) (pi_range1 (by rfl) T.z_range (pa_cons (pv 1) pa_nil)) (pg_name (i := 3) sc__law_raised.nd rfl (by first | exact .inl rfl | exact .inr rfl)) (pss_one (ps_set (i := 2) sc__law_raised.nd rfl (by first | exact .inl rfl | exact .inr rfl) (pe_op op_mulU (pv 2) (pv 0)))))
      (pss_one (ps_ret (pv 2))))), HD.enter (ρ := [HD.S.v (.int x : HD.D), HD.S.v (.int k : HD.D), HD.S.un, HD.S.un]) hc rfl ?_⟩
  clear hc

  obtain ⟨hk, hx⟩ := h
  fail "dr"
  refine HD.ForD.inv (fun i ρ m => m = nn ∧ ∃ y, ρ = [.v (.int x), .v (.int k), .v (.int (x ^ i)), y]) ⟨rfl, .un, by rw [Int.pow_zero]⟩ (fun i d ρ m hd hi p => ?_) (fun ρ m p => ?_)
  · obtain ⟨rfl, y, rfl⟩ := p
    obtain ⟨hi2, _⟩ := HD.rngD_at hd
    fail "dr"
    refine HD.iC_ (((hx.pow (by omega) i).mono (k := 400 * 80 + 1) (by have : i ≤ 80 := by omega
                                                                       have := Nat.mul_le_mul_left 400 this
                                                                       omega)).mulU hx (by omega) (by omega) (by omega)) ?_
    fail "dr"
    exact ⟨rfl, _, by rw [Int.pow_succ]⟩
  · obtain ⟨rfl, y, rfl⟩ := p
    rw [HD.rngD_len]
    fail "dr"
    exact q
local macro_rules | `(tactic| fail "du") => `(tactic| ((with_reducible refine' use__law_raised ?h ?_); (case h => refine ⟨?_, ?_⟩ <;> first | assumption | (constructor <;> omega))))
def spd__law_wanted (ds : List HD.D) (n : Nat) (Q : HD.I → Nat → Prop) (_ : HD.XD) : Prop := ∃ (a b c p : Int), ds = [.int a, .int b, .int c, .int p] ∧ (Ok3 a b c ∧ (-80 ≤ p ∧ p ≤ 80)) ∧ Q (.v (.tup [.int (WR a b c p).rest, .int (WR a b c p).part, .int (WR a b c p).many])) n
theorem use__law_wanted {a b c p : Int} {n : Nat} {Q : HD.I → Nat → Prop} {E : HD.XD} (h : Ok3 a b c ∧ (-80 ≤ p ∧ p ≤ 80)) (q : Q (.v (.tup [.int (WR a b c p).rest, .int (WR a b c p).part, .int (WR a b c p).many])) n) : spd__law_wanted [.int a, .int b, .int c, .int p] n Q E := ⟨a, b, c, p, rfl, h, q⟩
theorem ok__law_wanted (T : Tx P K mg) : FnOk P w K mg base CX0 2 T.f__law_wanted T.fd__law_wanted ["a", "b", "c", "power"] (HD.lift K spd__law_wanted) := by
  refine T.F__law_wanted.ok sc__law_wanted (fun vs H Q E h => ?_) (fun cdv A outer s H vs Q E hr h => ?_)
  · obtain ⟨cx, nn, args, Qd, Ed, hc, hsp⟩ := h
    obtain ⟨a, b, c, p, rfl, h, q⟩ := hsp
    exact hc.ra.len
  obtain ⟨cx, nn, args, Qd, Ed, hc, hsp⟩ := h
  obtain ⟨a, b, c, p, rfl, h, q⟩ := hsp
  refine ⟨_, (pss_cons (ps_if (pt_cmpR (op_eqK (K := K) hr.units) (pv 3) pe_int (nomark _)) (pss_one (ps_ret (pe_tup (pa_cons (pe_op op_mulU (pv 1) (pv 2)) (pa_cons (pv 0) (pa_cons pe_int pa_nil)))))) pss_nil)
      (pss_cons (ps_set (i := 4) sc__law_wanted.nd rfl (by first | exact .inl rfl | exact .inr rfl) (pe_callB call_absU (by rfl) T.z_abs (by decide +kernel) (pa_cons (pv 3) pa_nil)))
      (pss_cons (ps_if (pt_cmpR op_gt (pv 3) pe_int (nomark _)) (pss_one (ps_ret (pe_tup (pa_cons (pe_op op_sub (pe_op (op_addK (K := K)) (pe_call (ok__law_raised T) (hr.mono (by decide)) (by rfl) T.g__law_raised T.F__law_raised.kp T.b__law_raised .nil pass0 (pa_cons (pv 1) (pa_cons (pv 4) pa_nil))) (pe_call (ok__law_raised T) (hr.mono (by decide)) (by rfl) T.g__law_raised T.F__law_raised.kp T.b__law_raised .nil pass0 (pa_cons (pv 2) (pa_cons (pv 4) pa_nil)))) (pe_call (ok__law_raised T) (hr.mono (by decide)) (by rfl) T.g__law_raised T.F__law_raised.kp T.b__law_raised .nil pass0 (pa_cons (pv 0) (pa_cons (pv 4) pa_nil)))) (pa_cons pe_int (pa_cons (pv 4) pa_nil)))))) pss_nil)
      (pss_one (ps_ret (pe_tup (pa_cons (pe_call (ok__law_raised T) (hr.mono (by decide)) (by rfl) T.g__law_raised T.F__law_raised.kp T.b__law_raised .nil pass0 (pa_cons (pe_op op_mulU (pe_op op_mulU (pv 0) (pv 1)) (pv 2)) (pa_cons (pv 4) pa_nil))) (pa_cons (pe_op op_sub (pe_op (op_addK (K := K)) (pe_call (ok__law_raised T) (hr.mono (by decide)) (by rfl) T.g__law_raised T.F__law_raised.kp T.b__law_raised .nil pass0 (pa_cons (pe_op op_mulU (pv 0) (pv 2)) (pa_cons (pv 4) pa_nil))) (pe_call (ok__law_raised T) (hr.mono (by decide)) (by rfl) T.g__law_raised T.F__law_raised.kp T.b__law_raised .nil pass0 (pa_cons (pe_op op_mulU (pv 0) (pv 1)) (pa_cons (pv 4) pa_nil)))) (pe_call (ok__law_raised T) (hr.mono (by decide)) (by rfl) T.g__law_raised T.F__law_raised.kp T.b__law_raised .nil pass0 (pa_cons (pe_op op_mulU (pv 1) (pv 2)) (pa_cons (pv 4) pa_nil)))) (pa_cons (pv 4) pa_nil))))))))), HD.enter (ρ := [HD.S.v (.int a : HD.D), HD.S.v (.int b : HD.D), HD.S.v (.int c : HD.D), HD.S.v (.int p : HD.D), HD.S.un]) hc rfl ?_⟩
  clear hc

  obtain ⟨o, hp⟩ := h
  obtain ⟨h1, h2, h3, h4, h5, h6, h7⟩ := o.sm
  unfold WR at q
  fail "dr"
  refine HX.ited_ (fun h => ?_) (fun h => ?_)
  · rw [if_pos h] at q
    fail "dr"
    exact q
  · rw [if_neg h] at q
    fail "dr"
    refine HX.ited_ (fun h2 => ?_) (fun h2 => ?_)
    · rw [if_pos h2] at q
      rw [if_neg (show ¬ p < 0 by omega)]
      fail "dr"
      exact q
    · rw [if_neg h2] at q
      rw [if_pos (show p < 0 by omega)]
      fail "dr"
      exact q
local macro_rules | `(tactic| fail "du") => `(tactic| ((with_reducible refine' use__law_wanted ?h ?_); (case h => first | assumption | (refine ⟨by assumption, ?_⟩; first | assumption | (constructor <;> omega)))))
local macro_rules | `(tactic| fail "uO") => `(tactic| ((with_reducible refine HD.iC_ ?c ?_); (case c => (refine CM ?_ ?_ <;> assumption))))
theorem Ok3.ab {a b c : Int} (o : Ok3 a b c) : (1 ≤ a * b ∧ 1 ≤ a * c ∧ 1 ≤ b * c) ∧ 1 ≤ a * b * c := by
  obtain ⟨ha, hb, hc⟩ := o
  have p2 : ∀ x y : Int, 1 ≤ x → 1 ≤ y → 1 ≤ x * y := fun x y h1 h2 => by have := Int.mul_le_mul h1 h2 (by omega) (by omega); omega
  exact ⟨⟨p2 _ _ ha.1 hb.1, p2 _ _ ha.1 hc.1, p2 _ _ hb.1 hc.1⟩, p2 _ _ (p2 _ _ ha.1 hb.1) hc.1⟩
theorem mulP {p x : Int} {k : Nat} (hp : Sm 40000 p) (hx : Sm 400 x) (hk : k ≤ 80) : HX.CMulU p (x ^ k) := hp.mulU ((hx.pow (by omega) k).mono (k := 400 * 80 + 1) (by have := Nat.mul_le_mul_left 400 hk; omega)) (by omega) (by omega) (by omega)
def spd_root_below (ds : List HD.D) (n : Nat) (Q : HD.I → Nat → Prop) (_ : HD.XD) : Prop := ∃ rest part many high : Int, ds = [.int rest, .int part, .int many, .int high] ∧ Sm 40000 part ∧ (1 ≤ many ∧ many ≤ 80) ∧ (1 ≤ high ∧ high ≤ 2 ^ 260) ∧ 0 ≤ rest ∧ rest < part * high ^ many.toNat ∧ ∀ r : Int, 0 ≤ r → r < high → part * r ^ many.toNat ≤ rest → rest < part * (r + 1) ^ many.toNat → Q (.v (.int r)) n
theorem ok_root_below (T : Tx P K mg) : FnOk P w K mg base CX0 2 T.f_root_below T.fd_root_below ["rest", "part", "many", "high"] (HD.lift K spd_root_below) := by
  refine T.F_root_below.ok sc_root_below (fun vs H Q E h => ?_) (fun cdv A outer s H vs Q E hr h => ?_)
  · obtain ⟨cx, nn, args, Qd, Ed, hc, hsp⟩ := h
    obtain ⟨rest, part, many, high, rfl, hp, hm, hh, h0, h1, q⟩ := hsp
    exact hc.ra.len
  obtain ⟨cx, nn, args, Qd, Ed, hc, hsp⟩ := h
  obtain ⟨rest, part, many, high, rfl, hp, hm, hh, h0, h1, q⟩ := hsp
  refine ⟨_, (pss_cons (ps_set (i := 4) sc_root_below.nd rfl (by first | exact .inl rfl | exact .inr rfl) pe_int)
      (pss_cons (ps_while PassesOwn.never (pt_cmpR op_gt (pe_op op_sub (pv 3) (pv 4)) pe_int (nomark _)) (pss_cons (ps_set (i := 5) sc_root_below.nd rfl (by first | exact .inl rfl | exact .inr rfl) (pe_op op_fdivU (pe_op (op_addK (K := K)) (pv 4) (pv 3)) pe_int))
      (pss_one (ps_if (pt_cmpR op_le (pe_op op_mulU (pv 1) (pe_call (ok_raised T) (hr.mono (by decide)) (by rfl) T.g_raised T.F_raised.kp T.b_raised .nil pass0 (pa_cons (pv 5) (pa_cons (pv 2) pa_nil)))) (pv 0) (nomark _)) (pss_one (ps_set (i := 4) sc_root_below.nd rfl (by first | exact .inl rfl | exact .inr rfl) (pv 5))) (pss_one (ps_set (i := 3) sc_root_below.nd rfl (by first | exact .inl rfl | exact .inr rfl) (pv 5)))))))
      (pss_one (ps_ret (pv 4))))), HD.enter (ρ := [HD.S.v (.int rest : HD.D), HD.S.v (.int part : HD.D), HD.S.v (.int many : HD.D), HD.S.v (.int high : HD.D), HD.S.un, HD.S.un]) hc rfl ?_⟩
  clear hc

  fail "dr"
  refine HD.while_ (fun m ρ n => n = nn ∧ ∃ lo hi y, ρ = [.v (.int rest), .v (.int part), .v (.int many), .v (.int hi), .v (.int lo), y] ∧ (0 ≤ lo ∧ lo < hi ∧ hi ≤ high ∧ hi - lo ≤ 2 ^ m) ∧ part * lo ^ many.toNat ≤ rest ∧ rest < part * hi ^ many.toNat) 260 ⟨rfl, 0, high, .un, rfl, ⟨by omega, by omega, by omega, by omega⟩, by rw [Int.zero_pow (by omega)]; omega, h1⟩ ?_
  rintro m ρ n ⟨rfl, lo, hi, y, rfl, hb, hl, hu⟩
  fail "dr"
  refine HX.ited_ (fun h => ?_) (fun h => ?_)
  · cases m with
    | zero => exact absurd hb.2.2.2 (by omega)
    | succ m =>
    have hp2 : (2 : Int) ^ (m + 1) = 2 * 2 ^ m := by rw [Int.pow_succ]; omega
    rw [hp2] at hb
    have hs : Sm 400 ((lo + hi) / 2) := (Sm.of (m := 261) ⟨by omega, by omega⟩).mono (by omega)
    fail "dr"
    refine HD.iC_ (mulP hp hs (by omega)) ?_
    fail "dr"
    refine HX.ited_ (fun h2 => ?_) (fun h2 => ?_)
    · fail "dr"
      exact ⟨m, Nat.lt_succ_self m, rfl, _, _, _, rfl, ⟨by omega, by omega, by omega, by omega⟩, by omega, by omega⟩
    · fail "dr"
      exact ⟨m, Nat.lt_succ_self m, rfl, _, _, _, rfl, ⟨by omega, by omega, by omega, by omega⟩, by omega, by omega⟩
  · fail "dr"
    exact q lo hb.1 (by omega) hl (by rw [show lo + 1 = hi by omega]; exact hu)
theorem ipow_nonneg {x : Int} (h : 0 ≤ x) : ∀ k : Nat, 0 ≤ x ^ k
  | 0 => by rw [Int.pow_zero]; omega
  | k + 1 => by rw [Int.pow_succ]; exact Int.mul_nonneg (ipow_nonneg h k) h
theorem ipow_pos {x : Int} (h : 1 ≤ x) : ∀ k : Nat, 1 ≤ x ^ k
  | 0 => by rw [Int.pow_zero]; omega
  | k + 1 => by
    have h1 := ipow_pos h k
    have := Int.mul_le_mul h1 h (by omega) (by omega)
    rw [Int.pow_succ]; omega
theorem ipow_le {x y : Int} (h0 : 0 ≤ x) (h : x ≤ y) : ∀ k : Nat, x ^ k ≤ y ^ k
  | 0 => by rw [Int.pow_zero, Int.pow_zero]; omega
  | k + 1 => by
    rw [Int.pow_succ, Int.pow_succ]
    exact Int.mul_le_mul (ipow_le h0 h k) h h0 (ipow_nonneg (by omega) k)
theorem ipow_lt {x y : Int} (h0 : 0 ≤ x) (h : x < y) : ∀ k : Nat, x ^ (k + 1) < y ^ (k + 1)
  | 0 => by rw [Int.pow_succ, Int.pow_succ, Int.pow_zero, Int.pow_zero]; omega
  | k + 1 => by
    have h1 := ipow_lt h0 h k
    have h2 := ipow_nonneg h0 (k + 1)
    have h3 : x ^ (k + 1) * x ≤ x ^ (k + 1) * y := Int.mul_le_mul_of_nonneg_left (by omega) h2
    have h4 : x ^ (k + 1) * y < y ^ (k + 1) * y := Int.mul_lt_mul_of_pos_right h1 (by omega)
    rw [Int.pow_succ x (k + 1), Int.pow_succ y (k + 1)]
    omega
theorem ipow_add {x y : Int} (h0 : 0 ≤ x) (h1 : 0 ≤ y) : ∀ k : Nat, x ^ (k + 1) + y ^ (k + 1) ≤ (x + y) ^ (k + 1)
  | 0 => by simp only [Int.pow_succ, Int.pow_zero]; omega
  | k + 1 => by
    have h2 := ipow_add h0 h1 k
    have hx := ipow_nonneg h0 (k + 1)
    have hy := ipow_nonneg h1 (k + 1)
    have h3 := Int.mul_le_mul_of_nonneg_right h2 (show 0 ≤ x + y by omega)
    have h4 := Int.mul_nonneg hx h1
    have h5 := Int.mul_nonneg hy h0
    rw [Int.pow_succ x (k + 1), Int.pow_succ y (k + 1), Int.pow_succ (x + y) (k + 1)]
    rw [Int.add_mul, Int.mul_add, Int.mul_add] at h3
    omega
/-- r is what is whole of the root -/
structure Rt (rest part : Int) (k : Nat) (r : Int) : Prop where
  r0 : 0 ≤ r
  lo : part * r ^ k ≤ rest
  hi : rest < part * (r + 1) ^ k
theorem Rt.le {rest part : Int} {k : Nat} {r s : Int} (hp : 1 ≤ part) (h : Rt rest part k r) (g : Rt rest part k s) : r ≤ s := by
  by_cases z : s < r
  · have h1 := ipow_le (x := s + 1) (y := r) (by have := g.r0; omega) (by omega) k
    have h2 := Int.mul_le_mul_of_nonneg_left h1 (show 0 ≤ part by omega)
    have := h.lo; have := g.hi
    omega
  · omega
noncomputable def root (rest part : Int) (k : Nat) : Int := @Classical.epsilon Int ⟨0⟩ (Rt rest part k)
theorem Rt.eq {rest part : Int} {k : Nat} {r : Int} (hp : 1 ≤ part) (h : Rt rest part k r) : root rest part k = r := by
  have g : Rt rest part k (root rest part k) := @Classical.epsilon_spec_aux Int ⟨0⟩ _ ⟨r, h⟩
  exact Int.le_antisymm (g.le hp h) (h.le hp g)
theorem WR_many {a b c p : Int} (hp : -80 ≤ p ∧ p ≤ 80) : 1 ≤ (WR a b c p).many ∧ (WR a b c p).many ≤ 80 := by
  unfold WR
  split
  · show (1 : Int) ≤ 1 ∧ (1 : Int) ≤ 80
    omega
  · split
    · show 1 ≤ p ∧ p ≤ 80
      omega
    · show 1 ≤ -p ∧ -p ≤ 80
      omega
theorem WR_part {a b c p : Int} (o : Ok3 a b c) (hp : -80 ≤ p ∧ p ≤ 80) : Sm 40000 (WR a b c p).part := by
  obtain ⟨h1, h2, h3, h4, h5, h6, h7⟩ := o.sm
  unfold WR
  split
  · exact h1.mono (by omega)
  · split
    · exact (show Sm 40000 1 from (Sm.of (m := 1) (by constructor <;> omega)).mono (by omega))
    · have key : ∀ x : Int, Sm 400 x → Sm 32001 (x ^ (-p).toNat) := fun x hx => (hx.pow (by omega) _).mono (by have := Nat.mul_le_mul_left 400 (show (-p).toNat ≤ 80 by omega); omega)
      exact (((key _ h5).add (key _ h4)).sub ((key _ h6).mono (by omega))).mono (by omega)
theorem WR_high {a b c p : Int} (o : Ok3 a b c) (hp : -80 ≤ p ∧ p ≤ 80) (h2 : 1 ≤ (WR a b c p).part) : (WR a b c p).rest < (WR a b c p).part * (a * b * c + b + c + 1) ^ (WR a b c p).many.toNat := by
  obtain ⟨⟨h1, h3, h4⟩, h5⟩ := o.ab
  obtain ⟨ha, hb, hc⟩ := o
  unfold WR at *
  split
  · show b * c < a * (a * b * c + b + c + 1) ^ 1
    rw [Int.pow_succ, Int.pow_zero, Int.one_mul]
    have g1 : 1 * (a * b * c + b + c + 1) ≤ a * (a * b * c + b + c + 1) := Int.mul_le_mul_of_nonneg_right ha.1 (by omega)
    have g2 : 1 * (b * c) ≤ a * (b * c) := Int.mul_le_mul_of_nonneg_right ha.1 (by omega)
    have g3 : a * b * c = a * (b * c) := Int.mul_assoc _ _ _
    omega
  · split
    · obtain ⟨k, rfl⟩ : ∃ k : Nat, p = k + 1 := ⟨(p - 1).toNat, by omega⟩
      show b ^ ((k : Int) + 1).toNat + c ^ ((k : Int) + 1).toNat - a ^ ((k : Int) + 1).toNat < 1 * (a * b * c + b + c + 1) ^ ((k : Int) + 1).toNat
      rw [show ((k : Int) + 1).toNat = k + 1 by omega, Int.one_mul]
      have g1 := ipow_add (x := b) (y := c) (by omega) (by omega) k
      have g2 := ipow_le (x := b + c) (y := a * b * c + b + c + 1) (by omega) (by omega) (k + 1)
      have g3 := ipow_pos ha.1 (k + 1)
      omega
    · rename_i z1 z2
      rw [if_neg z1, if_neg z2] at h2
      obtain ⟨k, hk⟩ : ∃ k : Nat, -p = k + 1 := ⟨(-p - 1).toNat, by omega⟩
      have g1 := ipow_lt (x := a * b * c) (y := a * b * c + b + c + 1) (by omega) (by omega) k
      have e : (-p).toNat = k + 1 := by omega
      have g2 := ipow_nonneg (x := a * b * c + b + c + 1) (by omega) (k + 1)
      have g3 := Int.mul_le_mul_of_nonneg_right h2 g2
      show (a * b * c) ^ (-p).toNat < _ * (a * b * c + b + c + 1) ^ (-p).toNat
      rw [← e] at g1 g3
      rw [Int.one_mul] at g3
      exact Int.lt_of_lt_of_le g1 g3
/-- what is known of a rest, a part and how many times -/
structure WOk (w : WT) (h : Int) : Prop where
  many : 1 ≤ w.many ∧ w.many ≤ 80
  plog : Sm 40000 w.part
  high : 1 ≤ w.part → w.rest < w.part * h ^ w.many.toNat
theorem WR_ok {a b c p : Int} (o : Ok3 a b c) (hp : -80 ≤ p ∧ p ≤ 80) : WOk (WR a b c p) (a * b * c + b + c + 1) := ⟨WR_many hp, WR_part o hp, WR_high o hp⟩
noncomputable def WT.rt (w : WT) : Int := root w.rest w.part w.many.toNat
def whD (T : Tx P K mg) (d : HD.D) : HD.D := .ins T.C_Whole [("word", .str "whole"), ("parts", .tup [d]), ("number", d)]
def nwD (T : Tx P K mg) (d : HD.D) : HD.D := .ins T.C_NoWhole [("word", .str "nowhole"), ("parts", .tup [d]), ("low", d)]
noncomputable def WT.res (T : Tx P K mg) (w : WT) : HD.D := if w.rest ≤ 0 ∨ w.part ≤ 0 then nwD T .non else if w.part * w.rt ^ w.many.toNat = w.rest then whD T (.int w.rt) else nwD T (.int w.rt)
def spd_fourth_found (T : Tx P K mg) (ds : List HD.D) (n : Nat) (Q : HD.I → Nat → Prop) (_ : HD.XD) : Prop := ∃ a b c p : Int, ds = [.int a, .int b, .int c, .int p] ∧ Ok3 a b c ∧ (-80 ≤ p ∧ p ≤ 80) ∧ Q (.o ((WR a b c p).res T)) n
theorem ok_fourth_found (T : Tx P K mg) : FnOk P w K mg base CX0 7 T.f_fourth_found T.fd_fourth_found ["a", "b", "c", "power"] (HD.lift K (spd_fourth_found T)) := by
  refine T.F_fourth_found.ok sc_fourth_found (fun vs H Q E h => ?_) (fun cdv A outer s H vs Q E hr h => ?_)
  · obtain ⟨cx, nn, args, Qd, Ed, hc, hsp⟩ := h
    obtain ⟨a, b, c, p, rfl, o, hp, q⟩ := hsp
    exact hc.ra.len
  obtain ⟨cx, nn, args, Qd, Ed, hc, hsp⟩ := h
  obtain ⟨a, b, c, p, rfl, o, hp, q⟩ := hsp
  refine ⟨_, (pss_cons (ps_asg (pe_call (ok_wanted T) (hr.mono (by decide)) (by rfl) T.g_wanted T.F_wanted.kp T.b_wanted .nil pass0 (pa_cons (pv 0) (pa_cons (pv 1) (pa_cons (pv 2) (pa_cons (pv 3) pa_nil))))) (pg_tupK (K := K) 3 (by rfl) (pgs_cons (pg_name (i := 4) sc_fourth_found.nd rfl (by first | exact .inl rfl | exact .inr rfl)) (pgs_cons (pg_name (i := 5) sc_fourth_found.nd rfl (by first | exact .inl rfl | exact .inr rfl)) (pgs_cons (pg_name (i := 6) sc_fourth_found.nd rfl (by first | exact .inl rfl | exact .inr rfl)) pgs_nil)))))
      (pss_cons (ps_if (PW.pt (pw_or (pt_cmpR op_le (pv 4) pe_int (nomark _)) (pw_or1 (pt_cmpR op_le (pv 5) pe_int (nomark _))))) (pss_one (ps_ret (StX.pe_makeR T.mk_NoWhole (ok_NoWhole_init T) (hr.mono (by decide)) (by rfl) T.g_NoWhole pass0 (pa_cons pe_non pa_nil)))) pss_nil)
      (pss_cons (ps_set (i := 7) sc_fourth_found.nd rfl (by first | exact .inl rfl | exact .inr rfl) (pe_call (ok_root_below T) (hr.mono (by decide)) (by rfl) T.g_root_below T.F_root_below.kp T.b_root_below .nil pass0 (pa_cons (pv 4) (pa_cons (pv 5) (pa_cons (pv 6) (pa_cons (pe_op (op_addK (K := K)) (pe_op (op_addK (K := K)) (pe_op (op_addK (K := K)) (pe_op op_mulU (pe_op op_mulU (pv 0) (pv 1)) (pv 2)) (pv 1)) (pv 2)) pe_int) pa_nil))))))
      (pss_one (ps_ret (pe_ifExp (pt_cmpR (op_eqK (K := K) hr.units) (pe_op op_mulU (pv 5) (pe_call (ok_raised T) (hr.mono (by decide)) (by rfl) T.g_raised T.F_raised.kp T.b_raised .nil pass0 (pa_cons (pv 7) (pa_cons (pv 6) pa_nil)))) (pv 4) (nomark _)) (StX.pe_makeR T.mk_Whole (ok_Whole_init T) (hr.mono (by decide)) (by rfl) T.g_Whole pass0 (pa_cons (pv 7) pa_nil)) (StX.pe_makeR T.mk_NoWhole (ok_NoWhole_init T) (hr.mono (by decide)) (by rfl) T.g_NoWhole pass0 (pa_cons (pv 7) pa_nil)))))))), HD.enter (ρ := [HD.S.v (.int a : HD.D), HD.S.v (.int b : HD.D), HD.S.v (.int c : HD.D), HD.S.v (.int p : HD.D), HD.S.un, HD.S.un, HD.S.un, HD.S.un]) hc rfl ?_⟩
  clear hc

  obtain ⟨⟨h1, h2, h3⟩, h4⟩ := o.ab
  obtain ⟨g1, g2, g3, g4, g5, g6, g7⟩ := o.sm
  have gh : a * b * c + b + c + 1 ≤ 2 ^ 260 := by
    obtain ⟨ha, hb, hc⟩ := o
    have e := ((nm_sm ha).mul (nm_sm hb)).mul (nm_sm hc)
    unfold Sm at e
    generalize a * b * c = x at *
    omega
  have k := WR_ok o hp
  obtain ⟨ha, hb, hc⟩ := id o
  fail "dr"
  generalize WR a b c p = w at k q ⊢
  obtain ⟨hm, hl, hh⟩ := k
  unfold WT.res at q
  refine HX.ited_ (fun h5 => ?_) (fun h5 => ?_)
  · rw [if_pos (.inl h5)] at q
    fail "dr"
    refine use_NoWhole_init rfl ?_
    fail "dr"
    exact q
  fail "dr"
  refine HX.ited_ (fun h6 => ?_) (fun h6 => ?_)
  · rw [if_pos (.inr h6)] at q
    fail "dr"
    refine use_NoWhole_init rfl ?_
    fail "dr"
    exact q
  rw [if_neg (by omega)] at q
  fail "dr"
  refine ⟨_, _, _, _, rfl, hl, hm, ⟨by omega, by omega⟩, by omega, hh (by omega), fun r r0 r1 r2 r3 => ?_⟩
  have er : w.rt = r := Rt.eq (by omega) ⟨r0, r2, r3⟩
  have hs : Sm 400 r := (Sm.of (m := 261) ⟨by omega, by omega⟩).mono (by omega)
  rw [er] at q
  fail "dr"
  refine HD.iC_ (mulP hl hs (by omega)) ?_
  fail "dr"
  refine HX.ited_ (fun h7 => ?_) (fun h7 => ?_)
  · rw [if_pos h7] at q
    fail "dr"
    refine use_Whole_init rfl ?_
    fail "dr"
    exact q
  · rw [if_neg h7] at q
    fail "dr"
    refine use_NoWhole_init rfl ?_
    fail "dr"
    exact q
theorem use_fourth_found {T : Tx P K mg} {a b c p : Int} {n : Nat} {Q : HD.I → Nat → Prop} {E : HD.XD} (o : Ok3 a b c) (hp : -80 ≤ p ∧ p ≤ 80) (q : Q (.o ((WR a b c p).res T)) n) : spd_fourth_found T [.int a, .int b, .int c, .int p] n Q E := ⟨a, b, c, p, rfl, o, hp, q⟩
local macro_rules | `(tactic| fail "du") => `(tactic| ((with_reducible refine use_fourth_found ?g ?h ?_); (case g => assumption); (case h => first | assumption | (constructor <;> omega))))
structure Grow (a b c d : Int) : Prop where
  g1 : 1 ≤ a
  g2 : a < b
  g3 : b ≤ c
  g4 : c < d
  g5 : d ≤ 99
theorem Grow.ok4 {a b c d : Int} (g : Grow a b c d) : Ok4 a b c d := by
  obtain ⟨h1, h2, h3, h4, h5⟩ := g
  exact ⟨by omega, by omega, by omega, by omega⟩
def spd_need_growing (ds : List HD.D) (n : Nat) (Q : HD.I → Nat → Prop) (_ : HD.XD) : Prop := ∃ (a b c d : Int), ds = [.int a, .int b, .int c, .int d] ∧ (Grow a b c d) ∧ Q (.v .non) n
theorem use_need_growing {a b c d : Int} {n : Nat} {Q : HD.I → Nat → Prop} {E : HD.XD} (h : Grow a b c d) (q : Q (.v .non) n) : spd_need_growing [.int a, .int b, .int c, .int d] n Q E := ⟨a, b, c, d, rfl, h, q⟩
theorem ok_need_growing (T : Tx P K mg) : FnOk P w K mg base CX0 4 T.f_need_growing T.fd_need_growing ["a", "b", "c", "d"] (HD.lift K spd_need_growing) := by
  refine T.F_need_growing.ok sc_need_growing (fun vs H Q E h => ?_) (fun cdv A outer s H vs Q E hr h => ?_)
  · obtain ⟨cx, nn, args, Qd, Ed, hc, hsp⟩ := h
    obtain ⟨a, b, c, d, rfl, h, q⟩ := hsp
    exact hc.ra.len
  obtain ⟨cx, nn, args, Qd, Ed, hc, hsp⟩ := h
  obtain ⟨a, b, c, d, rfl, h, q⟩ := hsp
  refine ⟨_, (pss_cons (ps_expr (pe_call (ok_need_number T) (hr.mono (by decide)) (by rfl) T.g_need_number T.F_need_number.kp T.b_need_number .nil pass0 (pa_cons (pv 0) (pa_cons pe_str (pa_cons pe_int (pa_cons (pe_glob (by rfl) T.c_MOST_TOLD T.r_MOST_TOLD) pa_nil))))))
      (pss_cons (ps_expr (pe_call (ok_need_number T) (hr.mono (by decide)) (by rfl) T.g_need_number T.F_need_number.kp T.b_need_number .nil pass0 (pa_cons (pv 1) (pa_cons pe_str (pa_cons (pe_op (op_addK (K := K)) (pv 0) pe_int) (pa_cons (pe_glob (by rfl) T.c_MOST_TOLD T.r_MOST_TOLD) pa_nil))))))
      (pss_cons (ps_expr (pe_call (ok_need_number T) (hr.mono (by decide)) (by rfl) T.g_need_number T.F_need_number.kp T.b_need_number .nil pass0 (pa_cons (pv 2) (pa_cons pe_str (pa_cons (pv 1) (pa_cons (pe_glob (by rfl) T.c_MOST_TOLD T.r_MOST_TOLD) pa_nil))))))
      (pss_one (ps_expr (pe_call (ok_need_number T) (hr.mono (by decide)) (by rfl) T.g_need_number T.F_need_number.kp T.b_need_number .nil pass0 (pa_cons (pv 3) (pa_cons pe_str (pa_cons (pe_op (op_addK (K := K)) (pv 2) pe_int) (pa_cons (pe_glob (by rfl) T.c_MOST_TOLD T.r_MOST_TOLD) pa_nil)))))))))), HD.enter (ρ := [HD.S.v (.int a : HD.D), HD.S.v (.int b : HD.D), HD.S.v (.int c : HD.D), HD.S.v (.int d : HD.D)]) hc rfl ?_⟩
  clear hc

  obtain ⟨h1, h2, h3, h4, h5⟩ := id h
  fail "dr"
  exact q
local macro_rules | `(tactic| fail "du") => `(tactic| ((with_reducible refine' use_need_growing ?h ?_); (case h => assumption)))
/-- the halving walk -/
def bs (neg : Int → Bool) : Nat → Int → Int → Int
  | 0, _, high => high
  | n + 1, low, high => if high - low > 1 then (if neg ((low + high) / 2) then bs neg n ((low + high) / 2) high else bs neg n low ((low + high) / 2)) else high
theorem bs_bd {neg : Int → Bool} : ∀ {n : Nat} {low high : Int}, low < high → low < bs neg n low high ∧ bs neg n low high ≤ high
  | 0, low, high, h => ⟨h, Int.le_refl _⟩
  | n + 1, low, high, h => by
    rw [bs]
    split
    · split
      · have := bs_bd (neg := neg) (n := n) (low := (low + high) / 2) (high := high) (by omega)
        omega
      · have := bs_bd (neg := neg) (n := n) (low := low) (high := (low + high) / 2) (by omega)
        omega
    · omega
theorem bs_end {neg : Int → Bool} {n : Nat} {low high : Int} (h : ¬ high - low > 1) : bs neg n low high = high := by
  cases n with
  | zero => rfl
  | succ n => rw [bs, if_neg h]
def lst (a b c d side : Int) : Int := bs (fun m => decide (S a b c d (side * m) < 0)) 7 0 80
def spd_least_step (ds : List HD.D) (n : Nat) (Q : HD.I → Nat → Prop) (_ : HD.XD) : Prop := ∃ (a b c d e : Int), ds = [.int a, .int b, .int c, .int d, .int e] ∧ (Grow a b c d ∧ (e = 1 ∨ e = -1)) ∧ Q (.v (.int (lst a b c d e))) n
theorem use_least_step {a b c d e : Int} {n : Nat} {Q : HD.I → Nat → Prop} {E : HD.XD} (h : Grow a b c d ∧ (e = 1 ∨ e = -1)) (q : Q (.v (.int (lst a b c d e))) n) : spd_least_step [.int a, .int b, .int c, .int d, .int e] n Q E := ⟨a, b, c, d, e, rfl, h, q⟩
theorem ok_least_step (T : Tx P K mg) : FnOk P w K mg base CX0 4 T.f_least_step T.fd_least_step ["a", "b", "c", "d", "side"] (HD.lift K spd_least_step) := by
  refine T.F_least_step.ok sc_least_step (fun vs H Q E h => ?_) (fun cdv A outer s H vs Q E hr h => ?_)
  · obtain ⟨cx, nn, args, Qd, Ed, hc, hsp⟩ := h
    obtain ⟨a, b, c, d, e, rfl, h, q⟩ := hsp
    exact hc.ra.len
  obtain ⟨cx, nn, args, Qd, Ed, hc, hsp⟩ := h
  obtain ⟨a, b, c, d, e, rfl, h, q⟩ := hsp
  refine ⟨_, (pss_cons (ps_par (i := 5) (j := 6) (by rfl) sc_least_step.nd rfl rfl (by decide) rfl rfl (pa_cons pe_int (pa_cons (pe_glob (by rfl) T.c_MOST_POWER T.r_MOST_POWER) pa_nil)) (by rfl))
      (pss_cons (ps_while PassesOwn.never (pt_cmpR op_gt (pe_op op_sub (pv 6) (pv 5)) pe_int (nomark _)) (pss_cons (ps_set (i := 7) sc_least_step.nd rfl (by first | exact .inl rfl | exact .inr rfl) (pe_op op_fdivU (pe_op (op_addK (K := K)) (pv 5) (pv 6)) pe_int))
      (pss_one (ps_if (pt_cmpR op_lt (pe_call (ok_sum_at T) (hr.mono (by decide)) (by rfl) T.g_sum_at T.F_sum_at.kp T.b_sum_at .nil pass0 (pa_cons (pv 0) (pa_cons (pv 1) (pa_cons (pv 2) (pa_cons (pv 3) (pa_cons (pe_op op_mulU (pv 4) (pv 7)) pa_nil)))))) pe_int (nomark _)) (pss_one (ps_set (i := 5) sc_least_step.nd rfl (by first | exact .inl rfl | exact .inr rfl) (pv 7))) (pss_one (ps_set (i := 6) sc_least_step.nd rfl (by first | exact .inl rfl | exact .inr rfl) (pv 7)))))))
      (pss_one (ps_ret (pv 6))))), HD.enter (ρ := [HD.S.v (.int a : HD.D), HD.S.v (.int b : HD.D), HD.S.v (.int c : HD.D), HD.S.v (.int d : HD.D), HD.S.v (.int e : HD.D), HD.S.un, HD.S.un, HD.S.un]) hc rfl ?_⟩
  clear hc

  obtain ⟨g, he⟩ := h
  have o := g.ok4
  fail "dr"
  refine HD.while_ (fun m ρ n => n = nn ∧ ∃ low high y, ρ = [.v (.int a), .v (.int b), .v (.int c), .v (.int d), .v (.int e), .v (.int low), .v (.int high), y] ∧ (0 ≤ low ∧ low < high ∧ high ≤ 80 ∧ high - low ≤ 2 ^ m) ∧ bs (fun m => decide (S a b c d (e * m) < 0)) m low high = lst a b c d e) 7 ⟨rfl, 0, 80, .un, rfl, ⟨by omega, by omega, by omega, by omega⟩, rfl⟩ ?_
  rintro m ρ n ⟨rfl, low, high, y, rfl, hb, hbs⟩
  fail "dr"
  refine HX.ited_ (fun h => ?_) (fun h => ?_)
  · cases m with
    | zero => exact absurd hb.2.2.2 (by omega)
    | succ m =>
    have hp : (2 : Int) ^ (m + 1) = 2 * 2 ^ m := by rw [Int.pow_succ]; omega
    rw [hp] at hb
    rw [bs, if_pos (by omega)] at hbs
    have hr' : -80 ≤ e * ((low + high) / 2) ∧ e * ((low + high) / 2) ≤ 80 := by rcases he with rfl | rfl <;> omega
    fail "dr"
    refine HX.ited_ (fun h2 => ?_) (fun h2 => ?_)
    · rw [if_pos (decide_eq_true h2)] at hbs
      fail "dr"
      exact ⟨m, Nat.lt_succ_self m, rfl, _, _, _, rfl, ⟨by omega, by omega, by omega, by omega⟩, hbs⟩
    · rw [if_neg (by rw [decide_eq_false h2]; exact Bool.false_ne_true)] at hbs
      fail "dr"
      exact ⟨m, Nat.lt_succ_self m, rfl, _, _, _, rfl, ⟨by omega, by omega, by omega, by omega⟩, hbs⟩
  · rw [bs_end (by omega)] at hbs
    fail "dr"
    rw [hbs]
    exact q
local macro_rules | `(tactic| fail "du") => `(tactic| ((with_reducible refine' use_least_step ?h ?_); (case h => first | assumption | exact ⟨by assumption, by assumption⟩)))
def resS (a b c d side : Int) : Bool × Int :=
  if S a b c d (side * lst a b c d side) = 0 then (true, side * lst a b c d side) else (false, if side > 0 then lst a b c d side - 1 else - lst a b c d side)
def res (a b c d : Int) : Bool × Int := if a * d = b * c then (true, 0) else resS a b c d (if a * d < b * c then 1 else -1)
/-- the paper of a power, or of two -/
def resP (T : Tx P K mg) (r : Bool × Int) : HD.D := if r.1 = true then .ins T.C_ByPower [("word", .str "bypower"), ("parts", .tup [.int r.2]), ("power", .int r.2)] else .ins T.C_Between [("word", .str "between"), ("parts", .tup [.int r.2]), ("low", .int r.2)]
def spd_power_of (T : Tx P K mg) (ds : List HD.D) (n : Nat) (Q : HD.I → Nat → Prop) (_ : HD.XD) : Prop := ∃ a b c d : Int, ds = [.int a, .int b, .int c, .int d] ∧ Grow a b c d ∧ Q (.o (resP T (res a b c d))) n
theorem ok_power_of (T : Tx P K mg) : FnOk P w K mg base CX0 7 T.f_power_of T.fd_power_of ["a", "b", "c", "d"] (HD.lift K (spd_power_of T)) := by
  refine T.F_power_of.ok sc_power_of (fun vs H Q E h => ?_) (fun cdv A outer s H vs Q E hr h => ?_)
  · obtain ⟨cx, nn, args, Qd, Ed, hc, hsp⟩ := h
    obtain ⟨a, b, c, d, rfl, g, q⟩ := hsp
    exact hc.ra.len
  obtain ⟨cx, nn, args, Qd, Ed, hc, hsp⟩ := h
  obtain ⟨a, b, c, d, rfl, g, q⟩ := hsp
  refine ⟨_, (pss_cons (ps_expr (pe_call (ok_need_growing T) (hr.mono (by decide)) (by rfl) T.g_need_growing T.F_need_growing.kp T.b_need_growing .nil pass0 (pa_cons (pv 0) (pa_cons (pv 1) (pa_cons (pv 2) (pa_cons (pv 3) pa_nil))))))
      (pss_cons (ps_if (pt_cmpR (op_eqK (K := K) hr.units) (pe_op op_mulU (pv 0) (pv 3)) (pe_op op_mulU (pv 1) (pv 2)) (nomark _)) (pss_one (ps_ret (StX.pe_makeR T.mk_ByPower (ok_ByPower_init T) (hr.mono (by decide)) (by rfl) T.g_ByPower pass0 (pa_cons pe_int pa_nil)))) pss_nil)
      (pss_cons (ps_set (i := 4) sc_power_of.nd rfl (by first | exact .inl rfl | exact .inr rfl) (pe_ifExp (pt_cmpR op_lt (pe_op op_mulU (pv 0) (pv 3)) (pe_op op_mulU (pv 1) (pv 2)) (nomark _)) pe_int (pe_un un_neg pe_int)))
      (pss_cons (ps_set (i := 5) sc_power_of.nd rfl (by first | exact .inl rfl | exact .inr rfl) (pe_call (ok_least_step T) (hr.mono (by decide)) (by rfl) T.g_least_step T.F_least_step.kp T.b_least_step .nil pass0 (pa_cons (pv 0) (pa_cons (pv 1) (pa_cons (pv 2) (pa_cons (pv 3) (pa_cons (pv 4) pa_nil)))))))
      (pss_cons (ps_if (pt_cmpR (op_eqK (K := K) hr.units) (pe_call (ok_sum_at T) (hr.mono (by decide)) (by rfl) T.g_sum_at T.F_sum_at.kp T.b_sum_at .nil pass0 (pa_cons (pv 0) (pa_cons (pv 1) (pa_cons (pv 2) (pa_cons (pv 3) (pa_cons (pe_op op_mulU (pv 4) (pv 5)) pa_nil)))))) pe_int (nomark _)) (pss_one (ps_ret (StX.pe_makeR T.mk_ByPower (ok_ByPower_init T) (hr.mono (by decide)) (by rfl) T.g_ByPower pass0 (pa_cons (pe_op op_mulU (pv 4) (pv 5)) pa_nil)))) pss_nil)
      (pss_one (ps_ret (StX.pe_makeR T.mk_Between (ok_Between_init T) (hr.mono (by decide)) (by rfl) T.g_Between pass0 (pa_cons (pe_ifExp (pt_cmpR op_gt (pv 4) pe_int (nomark _)) (pe_op op_sub (pv 5) pe_int) (pe_un un_neg (pv 5))) pa_nil))))))))), HD.enter (ρ := [HD.S.v (.int a : HD.D), HD.S.v (.int b : HD.D), HD.S.v (.int c : HD.D), HD.S.v (.int d : HD.D), HD.S.un, HD.S.un]) hc rfl ?_⟩
  clear hc

  have o := g.ok4
  obtain ⟨g1, g2, g3, g4, g5⟩ := id g
  fail "dr"
  refine HX.ited_ (fun h => ?_) (fun h => ?_)
  · have er : res a b c d = (true, 0) := if_pos h
    rw [er] at q
    fail "dr"
    refine use_ByPower_init rfl ?_
    fail "dr"
    exact q
  · have er : res a b c d = resS a b c d (if a * d < b * c then 1 else -1) := if_neg h
    rw [er] at q
    fail "dr"
    refine HD.joinN_ fun e he => ?_
    have he1 : e = 1 ∨ e = -1 := by
      rcases he with ⟨_, z⟩ | ⟨_, z⟩
      · exact .inl z
      · exact .inr z
    have he2 : (if a * d < b * c then (1 : Int) else -1) = e := by
      rcases he with ⟨z, y⟩ | ⟨z, y⟩
      · rw [if_pos (of_decide_eq_true z), y]
      · rw [if_neg (of_decide_eq_false z), y]
    rw [he2] at q
    clear he2 he er
    fail "dr"
    have bd := bs_bd (neg := fun m => decide (S a b c d (e * m) < 0)) (n := 7) (low := 0) (high := 80) (by omega)
    have hb2 : 0 < lst a b c d e ∧ lst a b c d e ≤ 80 := bd
    have hp : -80 ≤ e * lst a b c d e ∧ e * lst a b c d e ≤ 80 := by rcases he1 with rfl | rfl <;> omega
    have er2 : resS a b c d e = if S a b c d (e * lst a b c d e) = 0 then (true, e * lst a b c d e) else (false, if e > 0 then lst a b c d e - 1 else - lst a b c d e) := rfl
    generalize lst a b c d e = s at hb2 hp er2 ⊢
    fail "dr"
    refine HX.ited_ (fun h2 => ?_) (fun h2 => ?_)
    · rw [if_pos h2] at er2
      rw [er2] at q
      fail "dr"
      refine use_ByPower_init rfl ?_
      fail "dr"
      exact q
    · rw [if_neg h2] at er2
      rw [er2] at q
      fail "dr"
      refine HX.ited_ (fun h3 => ?_) (fun h3 => ?_)
      · rw [if_pos h3] at q
        fail "dr"
        refine use_Between_init rfl ?_
        fail "dr"
        exact q
      · rw [if_neg h3] at q
        fail "dr"
        refine use_Between_init rfl ?_
        fail "dr"
        exact q
theorem use_power_of {T : Tx P K mg} {a b c d : Int} {n : Nat} {Q : HD.I → Nat → Prop} {E : HD.XD} (g : Grow a b c d) (q : Q (.o (resP T (res a b c d))) n) : spd_power_of T [.int a, .int b, .int c, .int d] n Q E := ⟨a, b, c, d, rfl, g, q⟩
local macro_rules | `(tactic| fail "du") => `(tactic| ((with_reducible refine use_power_of ?g ?_); (case g => assumption)))
theorem S_neg {a b c d p : Int} (h : p < 0) : S a b c d p = (b * c * d) ^ (-p).toNat + (a * b * c) ^ (-p).toNat - (a * c * d) ^ (-p).toNat - (a * b * d) ^ (-p).toNat := if_pos h
theorem S_pos {a b c d p : Int} (h : ¬ p < 0) : S a b c d p = a ^ p.toNat + d ^ p.toNat - b ^ p.toNat - c ^ p.toNat := if_neg h
theorem powl_lt {x y : Int} {k : Nat} (hx : 0 ≤ x) (h : x < y) (hk : 0 < k) : x ^ k < y ^ k := by
  obtain ⟨x, rfl⟩ := Int.eq_ofNat_of_zero_le hx
  obtain ⟨y, rfl⟩ := Int.eq_ofNat_of_zero_le (show 0 ≤ y by omega)
  have e1 : x ^ k < y ^ k := Nat.pow_lt_pow_left (by omega) (by omega)
  have e3 : ((x ^ k : Nat) : Int) < ((y ^ k : Nat) : Int) := by omega
  rw [Int.natCast_pow, Int.natCast_pow] at e3
  exact e3
/-! the sign of the sum at each power -/
theorem S_nat (a b c d : Int) (p : Nat) : S a b c d (p : Int) = a ^ p + d ^ p - b ^ p - c ^ p := by
  rw [S_pos (by omega), Int.toNat_natCast]
theorem S_negn (a b c d : Int) (p : Nat) (h : 0 < p) : S a b c d (-(p : Int)) = (a * b * c) ^ p + (b * c * d) ^ p - (a * b * d) ^ p - (a * c * d) ^ p := by
  rw [S_neg (by omega), Int.neg_neg, Int.toNat_natCast]
  omega
structure Gr (a b c d : Int) : Prop where
  g1 : 0 < a
  g2 : a < b
  g3 : b ≤ c
  g4 : c < d
theorem Gr.up {a b c d : Int} (g : Gr a b c d) (q : Nat) (hq : 0 < q) (h : 0 ≤ a ^ q + d ^ q - b ^ q - c ^ q) : ∀ k : Nat, 0 < k → 0 < a ^ (q + k) + d ^ (q + k) - b ^ (q + k) - c ^ (q + k)
  | 0, z => absurd z (by omega)
  | 1, _ => by
    obtain ⟨p, rfl⟩ : ∃ p, q = p + 1 := ⟨q - 1, by omega⟩
    exact THR.grows g.g1 g.g2 g.g3 g.g4 p h
  | k + 2, _ => by
    have ih := Gr.up g q hq h (k + 1) (by omega)
    obtain ⟨p, hp⟩ : ∃ p, q + (k + 1) = p + 1 := ⟨q + k, by omega⟩
    rw [hp] at ih
    rw [show q + (k + 2) = p + 1 + 1 by omega]
    exact THR.grows g.g1 g.g2 g.g3 g.g4 p (Int.le_of_lt ih)
theorem Gr.inv {a b c d : Int} (g : Gr a b c d) : Gr (a * b * c) (a * b * d) (a * c * d) (b * c * d) := by
  obtain ⟨g1, g2, g3, g4⟩ := g
  refine ⟨Int.mul_pos (Int.mul_pos g1 (by omega)) (by omega), Int.mul_lt_mul_of_pos_left g4 (Int.mul_pos g1 (by omega)), ?_, ?_⟩
  · exact Int.mul_le_mul_of_nonneg_right (Int.mul_le_mul_of_nonneg_left g3 (by omega)) (by omega)
  · exact Int.mul_lt_mul_of_pos_right (Int.mul_lt_mul_of_pos_right g2 (by omega)) (by omega)
/-- above nothing stays so, to greater powers -/
theorem Gr.pos_up {a b c d : Int} (g : Gr a b c d) {p q : Int} (hq : 0 < q) (hp : q < p) (h : 0 ≤ S a b c d q) : 0 < S a b c d p := by
  obtain ⟨q, rfl⟩ := Int.eq_ofNat_of_zero_le (show 0 ≤ q by omega)
  obtain ⟨p, rfl⟩ := Int.eq_ofNat_of_zero_le (show 0 ≤ p by omega)
  rw [S_nat] at h ⊢
  have := g.up q (by omega) h (p - q) (by omega)
  rw [show q + (p - q) = p by omega] at this
  exact this
theorem Gr.neg_up {a b c d : Int} (g : Gr a b c d) {p q : Int} (hq : q < 0) (hp : p < q) (h : 0 ≤ S a b c d q) : 0 < S a b c d p := by
  obtain ⟨q', hq'⟩ := Int.eq_ofNat_of_zero_le (show 0 ≤ -q by omega)
  obtain ⟨p', hp'⟩ := Int.eq_ofNat_of_zero_le (show 0 ≤ -p by omega)
  obtain rfl : q = -(q' : Int) := by omega
  obtain rfl : p = -(p' : Int) := by omega
  rw [S_negn _ _ _ _ _ (by omega)] at h ⊢
  have := g.inv.up q' (by omega) h (p' - q') (by omega)
  rw [show q' + (p' - q') = p' by omega] at this
  exact this
theorem S_one (a b c d : Int) : S a b c d 1 = a + d - b - c := by
  have := S_nat a b c d 1
  simp only [Int.pow_succ, Int.pow_zero, Int.one_mul] at this
  exact this
theorem S_mone (a b c d : Int) : S a b c d (-1) = a * b * c + b * c * d - a * b * d - a * c * d := by
  have := S_negn a b c d 1 (by omega)
  simp only [Int.pow_succ, Int.pow_zero, Int.one_mul] at this
  exact this
theorem Gr.one {a b c d : Int} (g : Gr a b c d) (h : b * c ≤ a * d) : 0 < S a b c d 1 := by
  obtain ⟨g1, g2, g3, g4⟩ := g
  rw [S_one]
  have e1 : a * (d - c) = a * d - a * c := Int.mul_sub ..
  have e2 : c * (b - a) = c * b - c * a := Int.mul_sub ..
  have e3 : c * b = b * c := Int.mul_comm ..
  have e4 : c * a = a * c := Int.mul_comm ..
  have e5 : c * (b - a) ≤ a * (d - c) := by omega
  have e6 : a * (b - a) < c * (b - a) := Int.mul_lt_mul_of_pos_right (by omega) (by omega)
  rcases Int.lt_or_le (b - a) (d - c) with z | z
  · omega
  · have := Int.mul_le_mul_of_nonneg_left z (show 0 ≤ a by omega)
    omega
theorem Gr.mone {a b c d : Int} (g : Gr a b c d) (h : a * d ≤ b * c) : 0 < S a b c d (-1) := by
  obtain ⟨g1, g2, g3, g4⟩ := g
  rw [S_mone]
  have e0 : a * (d - c) ≤ c * (b - a) := by
    have e1 : a * (d - c) = a * d - a * c := Int.mul_sub ..
    have e2 : c * (b - a) = c * b - c * a := Int.mul_sub ..
    have e3 : c * b = b * c := Int.mul_comm ..
    have e4 : c * a = a * c := Int.mul_comm ..
    omega
  have e1 : b * (a * (d - c)) ≤ b * (c * (b - a)) := Int.mul_le_mul_of_nonneg_left e0 (by omega)
  have e2 : b * (c * (b - a)) < d * (c * (b - a)) := Int.mul_lt_mul_of_pos_right (by omega) (Int.mul_pos (by omega) (by omega))
  have e3 : b * (a * (d - c)) = a * b * d - a * b * c := by rw [Int.mul_sub, Int.mul_sub]; congr 1 <;> ac_rfl
  have e4 : d * (c * (b - a)) = b * c * d - a * c * d := by rw [Int.mul_sub, Int.mul_sub]; congr 1 <;> ac_rfl
  omega
theorem up69 : (List.range 99).all (fun c => decide (2 * c ^ 69 < (c + 1) ^ 69)) = true := by decide +kernel
theorem up64 : (List.range 97).all (fun a => decide (2 * (a * (a + 1) * 99) ^ 64 < ((a + 1) * (a + 1) * 99) ^ 64 + (a * (a + 1) * (a + 1)) ^ 64) || decide (99 * a ≤ (a + 1) * (a + 1))) = true := by decide +kernel
theorem Grow.gr {a b c d : Int} (g : Grow a b c d) : Gr a b c d := ⟨by have := g.g1; omega, g.g2, g.g3, g.g4⟩
theorem ipw_le {x y : Int} (k : Nat) (hx : 0 ≤ x) (h : x ≤ y) : x ^ k ≤ y ^ k := by
  obtain ⟨x, rfl⟩ := Int.eq_ofNat_of_zero_le hx
  obtain ⟨y, rfl⟩ := Int.eq_ofNat_of_zero_le (show 0 ≤ y by omega)
  have e1 : x ^ k ≤ y ^ k := Nat.pow_le_pow_left (by omega) k
  have e3 : ((x ^ k : Nat) : Int) ≤ ((y ^ k : Nat) : Int) := by omega
  rw [Int.natCast_pow, Int.natCast_pow] at e3
  exact e3
theorem Grow.at69 {a b c d : Int} (g : Grow a b c d) : 0 < S a b c d 69 := by
  obtain ⟨g1, g2, g3, g4, g5⟩ := g
  have e := S_nat a b c d 69
  rw [show ((69 : Nat) : Int) = 69 from rfl] at e
  rw [e]
  have e1 := ipw_le 69 (show 0 ≤ b by omega) g3
  have e2 := ipw_le 69 (show 0 ≤ c + 1 by omega) (show c + 1 ≤ d by omega)
  have e3 := Int.pow_pos (m := 69) (show 0 < a by omega)
  have e4 : 2 * c ^ 69 < (c + 1) ^ 69 := by
    obtain ⟨c, rfl⟩ := Int.eq_ofNat_of_zero_le (show 0 ≤ c by omega)
    have := of_decide_eq_true (List.all_eq_true.mp up69 c (List.mem_range.mpr (by omega)))
    have e5 : ((2 * c ^ 69 : Nat) : Int) < (((c + 1) ^ 69 : Nat) : Int) := by omega
    rw [Int.natCast_mul, Int.natCast_pow, Int.natCast_pow, Int.natCast_add] at e5
    exact e5
  omega
theorem inv_ineq {X Y Z W M N : Int} (hX : 0 < X) (hXM : X < M) (hMY : M ≤ Y) (hYZ : Y ≤ Z) (hZW : Z < W) (hWN : W ≤ N) (h : 2 * X * N < M * N + X * M) : X * Y * W + X * Z * W < Y * Z * W + X * Y * Z := by
  have h1 : Y * (M - X) ≤ M * (Y - X) := by
    have e := Int.mul_le_mul_of_nonneg_right hMY (show 0 ≤ X by omega)
    rw [Int.mul_sub, Int.mul_sub, Int.mul_comm Y M]
    omega
  have h2 : M * N * (W - Z) ≤ (N - M) * (W * Z) := by
    have e1 : M * (N * W) ≤ Z * (N * W) := Int.mul_le_mul_of_nonneg_right (by omega) (Int.mul_nonneg (by omega) (by omega))
    have e2 : W * (M * Z) ≤ N * (M * Z) := Int.mul_le_mul_of_nonneg_right hWN (Int.mul_nonneg (by omega) (by omega))
    have a1 : M * N * W = M * (N * W) := by ac_rfl
    have a2 : N * (W * Z) = Z * (N * W) := by ac_rfl
    have a3 : M * (W * Z) = W * (M * Z) := by ac_rfl
    have a4 : M * N * Z = N * (M * Z) := by ac_rfl
    rw [Int.mul_sub, Int.sub_mul, a1, a2, a3, a4]
    omega
  have h3 : X * (N - M) < N * (M - X) := by
    have a1 : 2 * X * N = 2 * (X * N) := by ac_rfl
    rw [Int.mul_sub, Int.mul_sub, Int.mul_comm N M, Int.mul_comm N X]
    omega
  have hP : 0 < Z * W * Y := Int.mul_pos (Int.mul_pos (by omega) (by omega)) (by omega)
  have c1 : Z * W * N * (Y * (M - X)) ≤ Z * W * N * (M * (Y - X)) := Int.mul_le_mul_of_nonneg_left h1 (Int.mul_nonneg (Int.mul_nonneg (by omega) (by omega)) (by omega))
  have c2 : Z * W * Y * (X * (N - M)) < Z * W * Y * (N * (M - X)) := Int.mul_lt_mul_of_pos_left h3 hP
  have c3 : X * Y * (M * N * (W - Z)) ≤ X * Y * ((N - M) * (W * Z)) := Int.mul_le_mul_of_nonneg_left h2 (Int.mul_nonneg (by omega) (by omega))
  have b1 : Z * W * N * (Y * (M - X)) = Z * W * Y * (N * (M - X)) := by ac_rfl
  have b2 : X * Y * ((N - M) * (W * Z)) = Z * W * Y * (X * (N - M)) := by ac_rfl
  have b3 : X * Y * (M * N * (W - Z)) = M * N * (X * Y * (W - Z)) := by ac_rfl
  have b4 : Z * W * N * (M * (Y - X)) = M * N * (Z * W * (Y - X)) := by ac_rfl
  have c4 : M * N * (X * Y * (W - Z)) < M * N * (Z * W * (Y - X)) := by omega
  have c5 : X * Y * (W - Z) < Z * W * (Y - X) := Int.lt_of_mul_lt_mul_left c4 (Int.mul_nonneg (by omega) (by omega))
  rw [Int.mul_sub, Int.mul_sub] at c5
  have d1 : Z * W * Y = Y * Z * W := by ac_rfl
  have d2 : Z * W * X = X * Z * W := by ac_rfl
  omega
theorem Grow.at64 {a b c d : Int} (g : Grow a b c d) (h : b * c < a * d) : 0 < S a b c d (-64) := by
  obtain ⟨g1, g2, g3, g4, g5⟩ := g
  have e := S_negn a b c d 64 (by omega)
  rw [show (-((64 : Nat) : Int)) = -64 from rfl] at e
  rw [e]
  have hq : (a + 1) * (a + 1) < 99 * a := by
    have e1 : (a + 1) * (a + 1) ≤ b * c := Int.mul_le_mul (by omega) (by omega) (by omega) (by omega)
    have e2 : a * d ≤ a * 99 := Int.mul_le_mul_of_nonneg_left g5 (by omega)
    omega
  have ha : a < 97 := by
    rcases Int.lt_or_le a 97 with z | z
    · exact z
    · have e1 : (a + 1) * 98 ≤ (a + 1) * (a + 1) := Int.mul_le_mul_of_nonneg_left (by omega) (by omega)
      omega
  have hM := ipw_le 64 (show 0 ≤ a + 1 by omega) (show a + 1 ≤ b by omega)
  have hY := ipw_le 64 (show 0 ≤ b by omega) g3
  have hZ := powl_lt (k := 64) (show 0 ≤ c by omega) g4 (by omega)
  have hN := ipw_le 64 (show 0 ≤ d by omega) g5
  have hX := powl_lt (k := 64) (show 0 ≤ a by omega) (show a < a + 1 by omega) (by omega)
  have hX0 := Int.pow_pos (m := 64) (show 0 < a by omega)
  have key : 2 * (a * (a + 1) * 99) ^ 64 < ((a + 1) * (a + 1) * 99) ^ 64 + (a * (a + 1) * (a + 1)) ^ 64 := by
    obtain ⟨a, rfl⟩ := Int.eq_ofNat_of_zero_le (show 0 ≤ a by omega)
    have z := List.all_eq_true.mp up64 a (List.mem_range.mpr (by omega))
    rw [Bool.or_eq_true] at z
    rcases z with z | z
    · have z := of_decide_eq_true z
      have e5 : ((2 * (a * (a + 1) * 99) ^ 64 : Nat) : Int) < ((((a + 1) * (a + 1) * 99) ^ 64 + (a * (a + 1) * (a + 1)) ^ 64 : Nat) : Int) := by omega
      simp only [Int.natCast_mul, Int.natCast_pow, Int.natCast_add] at e5
      exact e5
    · have z := of_decide_eq_true z
      have e5 : ((99 * a : Nat) : Int) ≤ (((a + 1) * (a + 1) : Nat) : Int) := by omega
      simp only [Int.natCast_mul, Int.natCast_add] at e5
      have : (99 : Int) * (a : Int) ≤ ((a : Int) + 1) * ((a : Int) + 1) := e5
      omega
  simp only [Int.mul_pow] at key ⊢
  generalize (99 : Int) ^ 64 = N at *
  generalize (a + 1) ^ 64 = M at *
  generalize a ^ 64 = X at *
  generalize b ^ 64 = Y at *
  generalize c ^ 64 = Z at *
  generalize d ^ 64 = W at *
  have hk : 2 * X * N < M * N + X * M := by
    have k1 : M * (2 * X * N) < M * (M * N + X * M) := by
      rw [Int.mul_add]
      have a1 : M * (2 * X * N) = 2 * (X * M * N) := by ac_rfl
      have a2 : M * (M * N) = M * M * N := by ac_rfl
      have a3 : M * (X * M) = X * M * M := by ac_rfl
      omega
    exact Int.lt_of_mul_lt_mul_left k1 (by omega)
  have := inv_ineq hX0 hX hM hY hZ hN hk
  omega
theorem bs_least {neg : Int → Bool} {T : Int} (hn : ∀ m, 0 < m → m < T → neg m = true) (hp : ∀ m, T ≤ m → neg m = false) : ∀ {n : Nat} {low high : Int}, 0 ≤ low → low < T → T ≤ high → high - low ≤ 2 ^ n → bs neg n low high = T
  | 0, low, high, h0, h1, h2, h3 => by
    rw [Int.pow_zero] at h3
    rw [bs]; omega
  | n + 1, low, high, h0, h1, h2, h3 => by
    have e : (2 : Int) ^ (n + 1) = 2 * 2 ^ n := by rw [Int.pow_succ]; omega
    rw [e] at h3
    rw [bs]
    by_cases z : high - low > 1
    · rw [if_pos z]
      by_cases y : (low + high) / 2 < T
      · rw [if_pos (hn _ (by omega) y)]
        exact bs_least hn hp (by omega) y h2 (by omega)
      · rw [if_neg (by rw [hp _ (by omega)]; exact Bool.false_ne_true)]
        exact bs_least hn hp h0 h1 (by omega) (by omega)
    · rw [if_neg z]; omega
theorem first_of {f : Nat → Int} : ∀ n : Nat, (∃ T, 1 ≤ T ∧ T ≤ n ∧ (∀ p, 1 ≤ p → p < T → f p < 0) ∧ 0 ≤ f T) ∨ ∀ p, 1 ≤ p → p ≤ n → f p < 0
  | 0 => .inr fun p h1 h2 => by omega
  | n + 1 => by
    rcases first_of (f := f) n with ⟨T, h1, h2, h3, h4⟩ | h
    · exact .inl ⟨T, h1, by omega, h3, h4⟩
    · rcases Int.lt_or_le (f (n + 1)) 0 with z | z
      · refine .inr fun p h1 h2 => ?_
        rcases Nat.lt_or_ge p (n + 1) with y | y
        · exact h p h1 (by omega)
        · rw [show p = n + 1 by omega]; exact z
      · exact .inl ⟨n + 1, by omega, Nat.le_refl _, fun p h1 h2 => h p h1 (by omega), z⟩
/-- the signs with one side that turns at T -/
structure Turn (f : Int → Int) (T : Int) : Prop where
  neg : ∀ p, 0 < p → p < T → f p < 0
  here : 0 ≤ f T
  pos : ∀ p, T < p → 0 < f p
  opp : ∀ p, p < 0 → 0 < f p
theorem Grow.turn {a b c d : Int} (g : Grow a b c d) (h : a * d < b * c) : ∃ T : Int, 1 ≤ T ∧ T ≤ 69 ∧ Turn (S a b c d) T ∧ lst a b c d 1 = T := by
  rcases first_of (f := fun p => S a b c d (p : Int)) 69 with ⟨T, h1, h2, h3, h4⟩ | z
  · have t : Turn (S a b c d) (T : Int) := ⟨fun p p1 p2 => by
        have := h3 p.toNat (by omega) (by omega)
        rw [Int.toNat_of_nonneg (by omega)] at this
        exact this, h4, fun p p1 => g.gr.pos_up (by omega) p1 h4, fun p p1 => by
        rcases Int.lt_or_le p (-1) with z | z
        · exact g.gr.neg_up (by omega) z (Int.le_of_lt (g.gr.mone (by omega)))
        · rw [show p = -1 by omega]; exact g.gr.mone (by omega)⟩
    refine ⟨T, by omega, by omega, t, ?_⟩
    unfold lst
    refine bs_least (fun m m1 m2 => ?_) (fun m m1 => ?_) (by omega) (by omega) (by omega) (by omega)
    · rw [Int.one_mul]; exact decide_eq_true (t.neg m m1 m2)
    · rw [Int.one_mul]
      refine decide_eq_false ?_
      rcases Int.lt_or_eq_of_le m1 with z | z
      · have := t.pos m z; omega
      · rw [← z]; have := t.here; omega
  · have z1 := z 69 (by omega) (by omega)
    have z2 := g.at69
    have e : ((69 : Nat) : Int) = 69 := rfl
    rw [e] at z1
    omega
theorem Grow.turn' {a b c d : Int} (g : Grow a b c d) (h : b * c < a * d) : ∃ T : Int, 1 ≤ T ∧ T ≤ 64 ∧ Turn (fun p => S a b c d (-p)) T ∧ lst a b c d (-1) = T := by
  rcases first_of (f := fun p => S a b c d (-(p : Int))) 64 with ⟨T, h1, h2, h3, h4⟩ | z
  · have t : Turn (fun p => S a b c d (-p)) (T : Int) := ⟨fun p p1 p2 => by
        have := h3 p.toNat (by omega) (by omega)
        rw [Int.toNat_of_nonneg (by omega)] at this
        exact this, h4, fun p p1 => g.gr.neg_up (q := -(T : Int)) (by omega) (by omega) h4, fun p p1 => by
        rcases Int.lt_or_le p (-1) with z | z
        · exact g.gr.pos_up (q := 1) (by omega) (by omega) (Int.le_of_lt (g.gr.one (by omega)))
        · rw [show p = -1 by omega]; exact g.gr.one (by omega)⟩
    refine ⟨T, by omega, by omega, t, ?_⟩
    unfold lst
    refine bs_least (fun m m1 m2 => ?_) (fun m m1 => ?_) (by omega) (by omega) (by omega) (by omega)
    · rw [Int.neg_mul, Int.one_mul]; exact decide_eq_true (t.neg m m1 m2)
    · rw [Int.neg_mul, Int.one_mul]
      refine decide_eq_false ?_
      rcases Int.lt_or_eq_of_le m1 with z | z
      · have := t.pos m z; omega
      · rw [← z]; have := t.here; omega
  · have z1 := z 64 (by omega) (by omega)
    have z2 := g.at64 h
    have e : (-((64 : Nat) : Int)) = -64 := rfl
    rw [e] at z1
    omega
theorem Grow.flat {a b c d : Int} (g : Grow a b c d) (h : a * d = b * c) (p : Int) (hp : p ≠ 0) : 0 < S a b c d p := by
  have o := g.gr.one (by omega)
  have m := g.gr.mone (by omega)
  rcases Int.lt_trichotomy p 0 with z | z | z
  · rcases Int.lt_or_eq_of_le (show p ≤ -1 by omega) with y | y
    · exact g.gr.neg_up (by omega) y (Int.le_of_lt m)
    · rw [y]; exact m
  · exact absurd z hp
  · rcases Int.lt_or_eq_of_le (show 1 ≤ p by omega) with y | y
    · exact g.gr.pos_up (by omega) y (Int.le_of_lt o)
    · rw [← y]; exact o
theorem By_eq {a b c i p : Int} : By a b c i p = decide ((WR a b c p).part * i ^ (WR a b c p).many.toNat = (WR a b c p).rest) := by
  unfold By WR S
  by_cases h0 : p = 0
  · rw [if_pos h0, if_pos h0]
    show _ = decide (a * i ^ 1 = b * c)
    rw [Int.pow_succ, Int.pow_zero, Int.one_mul]
  · rw [if_neg h0, if_neg h0]
    by_cases h1 : p > 0
    · rw [if_pos h1, if_neg (by omega)]
      show _ = decide (1 * i ^ p.toNat = b ^ p.toNat + c ^ p.toNat - a ^ p.toNat)
      rw [Int.one_mul]
      exact decide_eq_decide.mpr ⟨fun h => by omega, fun h => by omega⟩
    · rw [if_neg h1, if_pos (by omega)]
      show _ = decide (((a * c) ^ (-p).toNat + (a * b) ^ (-p).toNat - (b * c) ^ (-p).toNat) * i ^ (-p).toNat = (a * b * c) ^ (-p).toNat)
      have e1 : (b * c * i) ^ (-p).toNat = (b * c) ^ (-p).toNat * i ^ (-p).toNat := Int.mul_pow
      have e2 : (a * c * i) ^ (-p).toNat = (a * c) ^ (-p).toNat * i ^ (-p).toNat := Int.mul_pow
      have e3 : (a * b * i) ^ (-p).toNat = (a * b) ^ (-p).toNat * i ^ (-p).toNat := Int.mul_pow
      rw [Int.sub_mul, Int.add_mul, e1, e2, e3]
      exact decide_eq_decide.mpr ⟨fun h => by omega, fun h => by omega⟩
theorem root_ex {rest part : Int} {k : Nat} (hk : k ≠ 0) (h0 : 0 ≤ rest) : ∀ m : Nat, rest < part * (m : Int) ^ k → ∃ r, Rt rest part k r ∧ r < (m : Int)
  | 0, h => by
    rw [show ((0 : Nat) : Int) = 0 from rfl, Int.zero_pow hk, Int.mul_zero] at h
    omega
  | m + 1, h => by
    by_cases z : rest < part * (m : Int) ^ k
    · obtain ⟨r, hr, hl⟩ := root_ex hk h0 m z
      exact ⟨r, hr, by omega⟩
    · exact ⟨m, ⟨by omega, by omega, by rw [Int.natCast_succ] at h; exact h⟩, by omega⟩
theorem root_ok {rest part : Int} {k : Nat} (h : Int) (hk : k ≠ 0) (hp : 1 ≤ part) (h0 : 0 ≤ rest) (hh : 0 ≤ h) (h1 : rest < part * h ^ k) : Rt rest part k (root rest part k) ∧ root rest part k < h := by
  obtain ⟨m, rfl⟩ := Int.eq_ofNat_of_zero_le hh
  obtain ⟨r, hr, hl⟩ := root_ex hk h0 m h1
  rw [Rt.eq hp hr]
  exact ⟨hr, hl⟩

noncomputable def nxt (x y p : Int) : Option Int := if (WR x y y p).rest ≤ 0 ∨ (WR x y y p).part ≤ 0 then none else if (WR x y y p).part * (WR x y y p).rt ^ (WR x y y p).many.toNat = (WR x y y p).rest then some (WR x y y p).rt else none
theorem WR_rt {a b c p : Int} (o : Ok3 a b c) (hp : -80 ≤ p ∧ p ≤ 80) (h : ¬ ((WR a b c p).rest ≤ 0 ∨ (WR a b c p).part ≤ 0)) : Rt (WR a b c p).rest (WR a b c p).part (WR a b c p).many.toNat (WR a b c p).rt ∧ (WR a b c p).rt < a * b * c + b + c + 1 := by
  have k := WR_ok o hp
  obtain ⟨_, h4⟩ := o.ab
  obtain ⟨ha, hb, hc⟩ := o
  generalize WR a b c p = w at k h ⊢
  obtain ⟨hm, hl, hh⟩ := k
  exact root_ok _ (by omega) (by omega) (by omega) (by omega) (hh (by omega))
theorem nxt_some {x y p z : Int} (o : Ok3 x y y) (hp : -80 ≤ p ∧ p ≤ 80) (h : nxt x y p = some z) : By x y y z p = true ∧ 1 ≤ z := by
  unfold nxt at h
  split at h
  · cases h
  · rename_i h1
    split at h
    · rename_i h2
      cases h
      refine ⟨by rw [By_eq]; exact decide_eq_true h2, ?_⟩
      have r0 := (WR_rt o hp h1).1.r0
      refine Int.not_lt.mp fun q => ?_
      have e : (WR x y y p).rt = 0 := by omega
      have k := WR_many (a := x) (b := y) (c := y) hp
      rw [e, Int.zero_pow (by omega), Int.mul_zero] at h2
      omega
    · cases h
/-! the numbers in closed form -/
def CF (x0 x1 p : Int) (i : Nat) (x : Int) : Prop := if p = 0 then x * x0 ^ i = x1 ^ i * x0 else if p > 0 then x ^ p.toNat = i * x1 ^ p.toNat - ((i : Int) - 1) * x0 ^ p.toNat else x ^ (-p).toNat * (i * x0 ^ (-p).toNat - ((i : Int) - 1) * x1 ^ (-p).toNat) = x0 ^ (-p).toNat * x1 ^ (-p).toNat
theorem CF.zero {x0 x1 p : Int} : CF x0 x1 p 0 x0 := by
  unfold CF
  split
  · rw [Int.pow_zero, Int.pow_zero, Int.mul_one, Int.one_mul]
  · split
    · simp
    · simp
theorem CF.one {x0 x1 p : Int} : CF x0 x1 p 1 x1 := by
  unfold CF
  split
  · rw [Int.pow_succ, Int.pow_zero, Int.pow_succ, Int.pow_zero, Int.one_mul, Int.one_mul]
  · split
    · simp
    · simp [Int.mul_comm]
theorem By_pos {x y z p : Int} (hp : p > 0) (h : By x y y z p = true) : z ^ p.toNat = 2 * y ^ p.toNat - x ^ p.toNat := by
  unfold By S at h
  rw [if_neg (by omega), if_neg (by omega)] at h
  have := of_decide_eq_true h
  omega
theorem By_neg {x y z p : Int} (hp : p < 0) (hy : 1 ≤ y) (h : By x y y z p = true) : z ^ (-p).toNat * (2 * x ^ (-p).toNat - y ^ (-p).toNat) = x ^ (-p).toNat * y ^ (-p).toNat := by
  unfold By S at h
  rw [if_neg (by omega), if_pos hp] at h
  have h2 := of_decide_eq_true h
  simp only [Int.mul_pow] at h2
  have hY := ipow_pos hy (-p).toNat
  generalize x ^ (-p).toNat = X at *
  generalize y ^ (-p).toNat = Y at *
  generalize z ^ (-p).toNat = Z at *
  refine Int.eq_of_mul_eq_mul_left (a := Y) (by omega) ?_
  have e1 : Y * (Z * (2 * X - Y)) = 2 * (X * Y * Z) - Y * Y * Z := by rw [Int.mul_sub, Int.mul_sub]; congr 1 <;> ac_rfl
  have e2 : Y * (X * Y) = X * Y * Y := by ac_rfl
  rw [e1, e2]
  omega
theorem CF.step {x0 x1 p x y z : Int} {i : Nat} (h0 : 1 ≤ x0) (h1 : 1 ≤ x1) (hx : 1 ≤ x) (hy : 1 ≤ y) (hz : 1 ≤ z) (cx : CF x0 x1 p i x) (cy : CF x0 x1 p (i + 1) y) (h : By x y y z p = true) : CF x0 x1 p (i + 2) z := by
  unfold CF at *
  split
  · rename_i hp
    rw [if_pos hp] at cx cy
    have hb : x * z = y * y := by
      unfold By at h
      rw [if_pos hp] at h
      exact of_decide_eq_true h
    have hpos : 0 < x * x0 ^ i := Int.mul_pos (by omega) (by have := ipow_pos h0 i; omega)
    refine Int.eq_of_mul_eq_mul_left (a := x * x0 ^ i) (by omega) ?_
    have e1 : x * x0 ^ i * (z * x0 ^ (i + 2)) = (x * z) * (x0 ^ (i + 1) * x0 ^ (i + 1)) := by
      rw [show x0 ^ (i + 2) = x0 ^ (i + 1) * x0 from Int.pow_succ .., show x0 ^ (i + 1) = x0 ^ i * x0 from Int.pow_succ ..]; ac_rfl
    have e2 : (x * z) * (x0 ^ (i + 1) * x0 ^ (i + 1)) = (y * x0 ^ (i + 1)) * (y * x0 ^ (i + 1)) := by rw [hb]; ac_rfl
    rw [e1, e2, cy, cx]
    rw [show x1 ^ (i + 2) = x1 ^ (i + 1) * x1 from Int.pow_succ .., show x1 ^ (i + 1) = x1 ^ i * x1 from Int.pow_succ ..]; ac_rfl
  · rename_i hp
    rw [if_neg hp] at cx cy
    split
    · rename_i hp2
      rw [if_pos hp2] at cx cy
      rw [By_pos hp2 h, cx, cy]
      generalize x1 ^ p.toNat = A
      generalize x0 ^ p.toNat = B
      rw [Int.natCast_add, Int.natCast_add]
      simp only [Int.add_mul, Int.sub_mul, Int.one_mul]
      rw [show ((1 : Nat) : Int) = 1 from rfl, show ((2 : Nat) : Int) = 2 from rfl]
      omega
    · rename_i hp2
      rw [if_neg hp2] at cx cy
      have hb := By_neg (by omega) hy h
      have hC : 1 ≤ x0 ^ (-p).toNat * x1 ^ (-p).toNat := by have := Int.mul_le_mul (ipow_pos h0 (-p).toNat) (ipow_pos h1 (-p).toNat) (by omega) (by have := ipow_pos h0 (-p).toNat; omega); omega
      have hX := ipow_pos hx (-p).toNat
      have hY := ipow_pos hy (-p).toNat
      have eD : ((i + 2 : Nat) : Int) * x0 ^ (-p).toNat - (((i + 2 : Nat) : Int) - 1) * x1 ^ (-p).toNat = 2 * (((i + 1 : Nat) : Int) * x0 ^ (-p).toNat - (((i + 1 : Nat) : Int) - 1) * x1 ^ (-p).toNat) - ((i : Int) * x0 ^ (-p).toNat - ((i : Int) - 1) * x1 ^ (-p).toNat) := by
        generalize x1 ^ (-p).toNat = A
        generalize x0 ^ (-p).toNat = B
        rw [Int.natCast_add, Int.natCast_add]
        simp only [Int.add_mul, Int.sub_mul, Int.one_mul]
        rw [show ((1 : Nat) : Int) = 1 from rfl, show ((2 : Nat) : Int) = 2 from rfl]
        omega
      rw [eD]
      generalize x0 ^ (-p).toNat * x1 ^ (-p).toNat = C at *
      generalize ((i + 1 : Nat) : Int) * x0 ^ (-p).toNat - (((i + 1 : Nat) : Int) - 1) * x1 ^ (-p).toNat = E at *
      generalize ((i : Int) * x0 ^ (-p).toNat - ((i : Int) - 1) * x1 ^ (-p).toNat) = D at *
      generalize x ^ (-p).toNat = X at *
      generalize y ^ (-p).toNat = Y at *
      generalize z ^ (-p).toNat = Z at *
      -- X D = C, Y E = C, Z (2X - Y) = X Y
      refine Int.eq_of_mul_eq_mul_left (a := X * Y) (by have := Int.mul_pos (show 0 < X by omega) (show 0 < Y by omega); omega) ?_
      have e1 : X * Y * (Z * (2 * E - D)) = Z * (2 * X * (Y * E) - Y * (X * D)) := by
        rw [Int.mul_sub, Int.mul_sub, Int.mul_sub]; congr 1 <;> ac_rfl
      rw [e1, cx, cy]
      have e2 : Z * (2 * X * C - Y * C) = (Z * (2 * X - Y)) * C := by rw [← Int.sub_mul, ← Int.mul_assoc]
      rw [e2, hb]
theorem le_of_pow {x y : Int} {k : Nat} (hk : 0 < k) (hy : 0 ≤ y) (h : x ^ k ≤ y ^ k) : x ≤ y := by
  refine Int.not_lt.mp fun z => ?_
  obtain ⟨k, rfl⟩ : ∃ j, k = j + 1 := ⟨k - 1, by omega⟩
  have := ipow_lt hy z k
  omega
theorem CF.bd {x0 x1 p x : Int} {i : Nat} (h0 : 1 ≤ x0 ∧ x0 ≤ 99) (h1 : 1 ≤ x1 ∧ x1 ≤ 99) (hx : 1 ≤ x) (hi : i ≤ 11) (c : CF x0 x1 p i x) : x ≤ 9801 ∨ x ≤ 99 ^ i := by
  unfold CF at c
  split at c
  · cases i with
    | zero => rw [Int.pow_zero, Int.pow_zero, Int.mul_one, Int.one_mul] at c; exact .inl (by omega)
    | succ i =>
      refine .inr ?_
      have e3 := ipow_le (show 0 ≤ x1 by omega) h1.2 (i + 1)
      have e4 := ipow_pos h0.1 i
      have e5 : x * x0 ^ i = x1 ^ (i + 1) := by
        refine Int.eq_of_mul_eq_mul_right (a := x0) (by omega) ?_
        rw [← c, Int.pow_succ, Int.mul_assoc]
      have e6 : x * 1 ≤ x * x0 ^ i := Int.mul_le_mul_of_nonneg_left e4 (by omega)
      omega
  · refine .inl ?_
    split at c
    · rename_i hp2
      refine Int.le_trans (le_of_pow (k := p.toNat) (y := 1188) (by omega) (by omega) ?_) (by omega)
      have a1 := ipow_le (show 0 ≤ x1 by omega) h1.2 p.toNat
      have a2 := ipow_pos h1.1 p.toNat
      have b1 := ipow_le (show 0 ≤ x0 by omega) h0.2 p.toNat
      have b2 := ipow_pos h0.1 p.toNat
      have e : (1188 : Int) ^ p.toNat = 12 ^ p.toNat * 99 ^ p.toNat := by rw [← Int.mul_pow]; exact congrArg (· ^ p.toNat) (by decide : (1188 : Int) = 12 * 99)
      have k1 : (12 : Int) ≤ 12 ^ p.toNat := by
        obtain ⟨k, hk⟩ : ∃ k, p.toNat = k + 1 := ⟨p.toNat - 1, by omega⟩
        rw [hk, Int.pow_succ]
        have := ipow_pos (show (1 : Int) ≤ 12 by omega) k
        omega
      have k2 := ipow_pos (show (1 : Int) ≤ 99 by omega) p.toNat
      have k3 := Int.mul_le_mul_of_nonneg_right k1 (show 0 ≤ (99 : Int) ^ p.toNat by omega)
      rw [e, c]
      generalize x1 ^ p.toNat = A at *
      generalize x0 ^ p.toNat = B at *
      have m1 : (i : Int) * A ≤ 11 * A := Int.mul_le_mul_of_nonneg_right (by omega) (by omega)
      have m2 : (-1) * B ≤ ((i : Int) - 1) * B := Int.mul_le_mul_of_nonneg_right (by omega) (by omega)
      omega
    · refine le_of_pow (k := (-p).toNat) (y := 9801) (by omega) (by omega) ?_
      have hX := ipow_pos hx (-p).toNat
      have e : x0 ^ (-p).toNat * x1 ^ (-p).toNat = (x0 * x1) ^ (-p).toNat := by rw [← Int.mul_pow]
      have e2 : x0 * x1 ≤ 99 * 99 := Int.mul_le_mul h0.2 h1.2 (by omega) (by omega)
      have e3 := ipow_le (x := x0 * x1) (y := 9801) (Int.mul_nonneg (by omega) (by omega)) (by omega) (-p).toNat
      have e4 : 1 ≤ x0 * x1 := by have := Int.mul_le_mul h0.1 h1.1 (by omega) (by omega); omega
      have e5 := ipow_pos e4 (-p).toNat
      rw [← e, ← c] at e5 e3
      generalize ((i : Int) * x0 ^ (-p).toNat - ((i : Int) - 1) * x1 ^ (-p).toNat) = D at *
      generalize x ^ (-p).toNat = X at *
      have hD : 1 ≤ D := by
        refine Int.not_lt.mp fun z => ?_
        have := Int.mul_le_mul_of_nonneg_left (show D ≤ 0 by omega) (show 0 ≤ X by omega)
        omega
      have := Int.mul_le_mul_of_nonneg_left hD (show 0 ≤ X by omega)
      omega
/-- two numbers that follow one another -/
structure Two (x0 x1 p : Int) (i : Nat) (x y : Int) : Prop where
  cx : CF x0 x1 p i x
  cy : CF x0 x1 p (i + 1) y
  px : 1 ≤ x
  py : 1 ≤ y
theorem Two.begin {x0 x1 p : Int} (h0 : 1 ≤ x0 ∧ x0 ≤ 99) (h1 : 1 ≤ x1 ∧ x1 ≤ 99) : Two x0 x1 p 0 x0 x1 := ⟨.zero, .one, h0.1, h1.1⟩
theorem p99 : (99 : Int) ^ 9 = 913517247483640899 ∧ (99 : Int) ^ 10 = 90438207500880449001 := ⟨by decide +kernel, by decide +kernel⟩
theorem pow99 {i j : Nat} (h : i ≤ j) : (99 : Int) ^ i ≤ 99 ^ j := by
  obtain ⟨k, rfl⟩ := Nat.le.dest h
  rw [Int.pow_add]
  have h1 := ipow_pos (show (1 : Int) ≤ 99 by omega) i
  have h2 := ipow_pos (show (1 : Int) ≤ 99 by omega) k
  have := Int.mul_le_mul_of_nonneg_left h2 (show 0 ≤ (99 : Int) ^ i by omega)
  omega
theorem Two.bd {x0 x1 p x y : Int} {i : Nat} (h0 : 1 ≤ x0 ∧ x0 ≤ 99) (h1 : 1 ≤ x1 ∧ x1 ≤ 99) (hi : i ≤ 9) (t : Two x0 x1 p i x y) : x ≤ 913517247483640899 ∧ y ≤ 90438207500880449001 := by
  have b1 := t.cx.bd h0 h1 t.px (by omega)
  have b2 := t.cy.bd h0 h1 t.py (by omega)
  have c1 := pow99 hi
  have c2 := pow99 (show i + 1 ≤ 10 by omega)
  rw [p99.1] at c1
  rw [p99.2] at c2
  omega
theorem Two.ok {x0 x1 p x y : Int} {i : Nat} (h0 : 1 ≤ x0 ∧ x0 ≤ 99) (h1 : 1 ≤ x1 ∧ x1 ≤ 99) (hi : i ≤ 9) (t : Two x0 x1 p i x y) : Ok3 x y y := by
  obtain ⟨b1, b2⟩ := t.bd h0 h1 hi
  have := t.px; have := t.py
  exact ⟨by omega, by omega, by omega⟩
theorem Two.next {x0 x1 p x y z : Int} {i : Nat} (h0 : 1 ≤ x0 ∧ x0 ≤ 99) (h1 : 1 ≤ x1 ∧ x1 ≤ 99) (hp : -80 ≤ p ∧ p ≤ 80) (hi : i ≤ 9) (t : Two x0 x1 p i x y) (h : nxt x y p = some z) : Two x0 x1 p (i + 1) y z := by
  obtain ⟨hb, hz⟩ := nxt_some (t.ok h0 h1 hi) hp h
  exact ⟨t.cy, t.cx.step h0.1 h1.1 t.px t.py hz t.cy hb, t.py, hz⟩
noncomputable def gone (p : Int) : Nat → Int → Int → List Int
  | 0, _, _ => []
  | m + 1, x, y => match nxt x y p with
    | none => []
    | some z => z :: gone p m y z
theorem gone_len (p : Int) : ∀ (m : Nat) (x y : Int), (gone p m x y).length ≤ m
  | 0, _, _ => Nat.le_refl _
  | m + 1, x, y => by
    rw [gone]
    cases nxt x y p with
    | none => exact Nat.zero_le _
    | some z => exact Nat.succ_le_succ (gone_len p m y z)
theorem gone_all {x0 x1 p : Int} (h0 : 1 ≤ x0 ∧ x0 ≤ 99) (h1 : 1 ≤ x1 ∧ x1 ≤ 99) (hp : -80 ≤ p ∧ p ≤ 80) : ∀ (m i : Nat) (x y : Int), Two x0 x1 p i x y → i + m ≤ 10 → ∀ z ∈ gone p m x y, 1 ≤ z ∧ z < 2 ^ 80
  | 0, _, _, _, _, _ => fun z hz => by cases hz
  | m + 1, i, x, y, t, hi => by
    rw [gone]
    cases e : nxt x y p with
    | none => exact fun z hz => by cases hz
    | some z =>
      have t2 := t.next h0 h1 hp (by omega) e
      intro u hu
      rcases List.mem_cons.mp hu with rfl | hu
      · have b := t2.cy.bd h0 h1 t2.py (by omega)
        have c := pow99 (show i + 1 + 1 ≤ 11 by omega)
        have e11 : (99 : Int) ^ 11 = 8953382542587164451099 := by decide +kernel
        rw [e11] at c
        have := t2.py
        omega
      · exact gone_all h0 h1 hp m (i + 1) y z t2 (by omega) u hu
noncomputable def goneL (x y m p : Int) : List Int := x :: y :: gone p (m.toNat - 2) x y
theorem at_neg {α : Type} {xs : List α} {k : Nat} (h1 : 1 ≤ k) (h2 : k ≤ xs.length) : atI xs (-(k : Int)) = xs[xs.length - k]? := by
  unfold atI ixN
  rw [if_neg (by omega), if_pos (by omega)]
  show xs[(-(k : Int) + xs.length).toNat]? = _
  congr 1
  omega
theorem at_m2 {pre : List Int} {x y : Int} : atI ((pre ++ [x, y]).map HD.D.int) (-2) = some (.int x) := by
  have := at_neg (xs := (pre ++ [x, y]).map HD.D.int) (k := 2) (by omega) (by simp)
  rw [show (-((2 : Nat) : Int)) = -2 from rfl] at this
  rw [this]
  simp
theorem at_m1 {pre : List Int} {x y : Int} : atI ((pre ++ [x, y]).map HD.D.int) (-1) = some (.int y) := by
  have := at_neg (xs := (pre ++ [x, y]).map HD.D.int) (k := 1) (by omega) (by simp)
  rw [show (-((1 : Nat) : Int)) = -1 from rfl] at this
  rw [this]
  simp
theorem res_cases {T : Tx P K mg} {x y p : Int} : (nxt x y p = none ∧ ∃ d, (WR x y y p).res T = nwD T d) ∨ ∃ z, nxt x y p = some z ∧ (WR x y y p).res T = whD T (.int z) := by
  unfold nxt WT.res
  split
  · exact .inl ⟨rfl, _, rfl⟩
  · split
    · exact .inr ⟨_, rfl, rfl⟩
    · exact .inl ⟨rfl, _, rfl⟩
def spd_numbers_by (ds : List HD.D) (n : Nat) (Q : HD.I → Nat → Prop) (_ : HD.XD) : Prop := ∃ (x y m p : Int), ds = [.int x, .int y, .int m, .int p] ∧ ((1 ≤ x ∧ x ≤ 99) ∧ (1 ≤ y ∧ y ≤ 99) ∧ (2 ≤ m ∧ m ≤ 12) ∧ (-80 ≤ p ∧ p ≤ 80)) ∧ Q (.v (.tup ((goneL x y m p).map HD.D.int))) n
theorem use_numbers_by {x y m p : Int} {n : Nat} {Q : HD.I → Nat → Prop} {E : HD.XD} (h : (1 ≤ x ∧ x ≤ 99) ∧ (1 ≤ y ∧ y ≤ 99) ∧ (2 ≤ m ∧ m ≤ 12) ∧ (-80 ≤ p ∧ p ≤ 80)) (q : Q (.v (.tup ((goneL x y m p).map HD.D.int))) n) : spd_numbers_by [.int x, .int y, .int m, .int p] n Q E := ⟨x, y, m, p, rfl, h, q⟩
theorem ok_numbers_by (T : Tx P K mg) : FnOk P w K mg base CX0 8 T.f_numbers_by T.fd_numbers_by ["first", "second", "many", "power"] (HD.lift K spd_numbers_by) := by
  refine T.F_numbers_by.ok sc_numbers_by (fun vs H Q E h => ?_) (fun cdv A outer s H vs Q E hr h => ?_)
  · obtain ⟨cx, nn, args, Qd, Ed, hc, hsp⟩ := h
    obtain ⟨x, y, m, p, rfl, h, q⟩ := hsp
    exact hc.ra.len
  obtain ⟨cx, nn, args, Qd, Ed, hc, hsp⟩ := h
  obtain ⟨x, y, m, p, rfl, h, q⟩ := hsp
  refine ⟨_, (pss_cons (ps_expr (pe_call (ok_need_number T) (hr.mono (by decide)) (by rfl) T.g_need_number T.F_need_number.kp T.b_need_number .nil pass0 (pa_cons (pv 0) (pa_cons pe_str (pa_cons pe_int (pa_cons (pe_glob (by rfl) T.c_MOST_TOLD T.r_MOST_TOLD) pa_nil))))))
      (pss_cons (ps_expr (pe_call (ok_need_number T) (hr.mono (by decide)) (by rfl) T.g_need_number T.F_need_number.kp T.b_need_number .nil pass0 (pa_cons (pv 1) (pa_cons pe_str (pa_cons pe_int (pa_cons (pe_glob (by rfl) T.c_MOST_TOLD T.r_MOST_TOLD) pa_nil))))))
      (pss_cons (ps_expr (pe_call (ok_need_number T) (hr.mono (by decide)) (by rfl) T.g_need_number T.F_need_number.kp T.b_need_number .nil pass0 (pa_cons (pv 2) (pa_cons pe_str (pa_cons pe_int (pa_cons (pe_glob (by rfl) T.c_MOST_IN_ROW T.r_MOST_IN_ROW) pa_nil))))))
      (pss_cons (ps_expr (pe_call (ok_need_power T) (hr.mono (by decide)) (by rfl) T.g_need_power T.F_need_power.kp T.b_need_power .nil pass0 (pa_cons (pv 3) pa_nil)))
      (pss_cons (ps_set (i := 4) sc_numbers_by.nd rfl (by first | exact .inl rfl | exact .inr rfl) (pe_lst (pa_cons (pv 0) (pa_cons (pv 1) pa_nil))))
      (pss_cons (ps_while PassesOwn.never (pt_cmpR op_lt (pe_callB (call_lenK (K := K)) (by rfl) T.z_len (by decide +kernel) (pa_cons (pv 4) pa_nil)) (pv 2) (nomark _)) (pss_cons (ps_set (i := 5) sc_numbers_by.nd rfl (by first | exact .inl rfl | exact .inr rfl) (pe_call (ok_fourth_found T) (hr.mono (by decide)) (by rfl) T.g_fourth_found T.F_fourth_found.kp T.b_fourth_found .nil pass0 (pa_cons (pe_ix (ix_K (K := K)) (pv 4) (pe_un un_neg pe_int) (fun _ _ => rfl)) (pa_cons (pe_ix (ix_K (K := K)) (pv 4) (pe_un un_neg pe_int) (fun _ _ => rfl)) (pa_cons (pe_ix (ix_K (K := K)) (pv 4) (pe_un un_neg pe_int) (fun _ _ => rfl)) (pa_cons (pv 3) pa_nil))))))
      (pss_cons (ps_if (pt_val (pe_callB (call_isiK' (K := K)) (by rfl) T.z_isinstance (by decide +kernel) (pa_cons (pv 5) (pa_cons (pe_glob (v := .ref T.C_NoWhole) (by rfl) T.g_NoWhole rfl) pa_nil)))) (pss_one ps_break) pss_nil)
      (pss_one (ps_expr (HD.pe_bmK (K := K) PySem.F.plainAttrs_list PySem.F.slot_list_append PySem.F.type_list_append mt_append (pv 4) (pa_cons (HC.pe_fldK (K := K) (pv 5)) pa_nil)))))))
      (pss_one (ps_ret (pe_callTy (call_tupleK (K := K)) (by rfl) T.z_tuple (by decide +kernel) (pa_cons (pv 4) pa_nil)))))))))), HD.enter (ρ := [HD.S.v (.int x : HD.D), HD.S.v (.int y : HD.D), HD.S.v (.int m : HD.D), HD.S.v (.int p : HD.D), HD.S.un, HD.S.un]) hc rfl ?_⟩
  clear hc

  unfold goneL at q
  obtain ⟨hx, hy, hm, hp⟩ := h
  fail "dr"
  refine HD.while_ (fun k ρ n => n = nn ∧ ∃ (i : Nat) (pre : List Int) (u v : Int) (f : HD.S), ρ = [.v (.int x), .v (.int y), .v (.int m), .v (.int p), .ow (.lst ((pre ++ [u, v]).map HD.D.int)), f] ∧ pre.length = i ∧ ((i : Int) + 2 + k = m) ∧ Two x y p i u v ∧ pre ++ [u, v] ++ gone p k u v = x :: y :: gone p (m.toNat - 2) x y) (m.toNat - 2) ⟨rfl, 0, [], x, y, .un, rfl, rfl, by omega, Two.begin hx hy, rfl⟩ ?_
  rintro k ρ n ⟨rfl, i, pre, u, v, f, rfl, hl, hk, tw, ht⟩
  fail "dr"
  rw [List.length_map, List.length_append, hl]
  refine HX.ited_ (fun h => ?_) (fun h => ?_)
  · simp only [List.length_cons, List.length_nil] at h
    cases k with
    | zero => exact absurd h (by omega)
    | succ k =>
    have o := tw.ok hx hy (show i ≤ 9 by omega)
    fail "dr"
    refine HD.ix_ (xs := (pre ++ [u, v]).map HD.D.int) rfl at_m2 ?_
    fail "dr"
    refine HD.ix_ (xs := (pre ++ [u, v]).map HD.D.int) rfl at_m1 ?_
    fail "dr"
    refine HD.ix_ (xs := (pre ++ [u, v]).map HD.D.int) rfl at_m1 ?_
    fail "dr"
    rcases res_cases (T := T) (x := u) (y := v) (p := p) with ⟨e1, d, e2⟩ | ⟨z, e1, e2⟩
    · rw [e2]
      rw [gone, e1, List.append_nil] at ht
      fail "dr"
      rw [ht]
      exact q
    · rw [e2]
      rw [gone, e1] at ht
      fail "dr"
      refine HD.append_ rfl rfl (Nat.ble_eq_true_of_le (by rw [List.length_map, List.length_append, hl]; show i + 2 ≤ 100000; omega)) ?_
      fail "dr"
      refine ⟨k, Nat.lt_succ_self k, rfl, i + 1, pre ++ [u], v, z, .ow (whD T (.int z)), ?_, by rw [List.length_append, hl]; rfl, by omega, tw.next hx hy hp (by omega) e1, by rw [← ht]; simp⟩
      simp
  · simp only [List.length_cons, List.length_nil] at h
    obtain rfl : k = 0 := by omega
    rw [gone, List.append_nil] at ht
    fail "dr"
    rw [ht]
    exact q
local macro_rules | `(tactic| fail "du") => `(tactic| ((with_reducible refine' use_numbers_by ?h ?_); (case h => assumption)))
def sq (b : Bool) (xs : List Int) : HD.D := if b = true then .lst (xs.map HD.D.int) else .tup (xs.map HD.D.int)
/-- a growing row of numbers -/
structure Row (xs : List Int) : Prop where
  len : 3 ≤ xs.length ∧ xs.length ≤ 12
  up : xs.Pairwise (· < ·)
  bd : ∀ x ∈ xs, 1 ≤ x ∧ x ≤ 99
theorem cut1 (xs : List HD.D) : HD.cutD xs (some 1) none = xs.drop 1 := by
  unfold HD.cutD
  rw [show (some (1 : Int)) = some ((1 : Nat) : Int) from rfl, HT.sIx_nat, HT.sIx_none]
  by_cases h : 1 ≤ xs.length
  · rw [Nat.min_eq_left h, List.take_of_length_le (by rw [List.length_drop]; omega)]
  · have : xs = [] := by cases xs with
      | nil => rfl
      | cons _ _ => simp at h
    subst this; rfl
theorem pairs_up : ∀ {xs : List Int}, xs.Pairwise (· < ·) → ∀ d ∈ HU.zipD (xs.map HD.D.int) ((xs.map HD.D.int).drop 1), ∃ a b : Int, d = .tup [.int a, .int b] ∧ a < b
  | [], _, d, h => by cases h
  | [x], _, d, h => by cases h
  | x :: y :: r, hp, d, h => by
    rcases List.mem_cons.mp h with rfl | h
    · exact ⟨x, y, rfl, (List.pairwise_cons.mp hp).1 y (by simp)⟩
    · exact pairs_up (List.pairwise_cons.mp hp).2 d h
theorem ints_row {xs : List Int} {ys : List HD.D} (e : some (xs.map HD.D.int) = some ys) (hl : xs.length ≤ 12) : ys.length ≤ 1000 ∧ ∀ x ∈ ys, x.tn.isSome = true := by
  cases e
  refine ⟨by rw [List.length_map]; omega, fun x hx => ?_⟩
  obtain ⟨i, _, rfl⟩ := List.mem_map.mp hx
  rfl
theorem row_yes {xs : List Int} : (Option.map (fun xs => xs.all isI) (some (xs.map HD.D.int)) == some true) = true := by
  have : (xs.map HD.D.int).all isI = true := by
    rw [List.all_map]
    exact List.all_eq_true.mpr fun _ _ => rfl
  show (some ((xs.map HD.D.int).all isI) == some true) = true
  rw [this]; rfl
def spd_need_numbers (ds : List HD.D) (n : Nat) (Q : HD.I → Nat → Prop) (_ : HD.XD) : Prop := ∃ (b : Bool) (xs : List Int), ds = [sq b xs] ∧ (Row xs) ∧ Q (.v .non) n
theorem use_need_numbers {b : Bool} {xs : List Int} {n : Nat} {Q : HD.I → Nat → Prop} {E : HD.XD} (h : Row xs) (q : Q (.v .non) n) : spd_need_numbers [sq b xs] n Q E := ⟨b, xs, rfl, h, q⟩
theorem ok_need_numbers (T : Tx P K mg) : FnOk P w K mg base CX0 3 T.f_need_numbers T.fd_need_numbers ["numbers"] (HD.lift K spd_need_numbers) := by
  refine T.F_need_numbers.ok sc_need_numbers (fun vs H Q E h => ?_) (fun cdv A outer s H vs Q E hr h => ?_)
  · obtain ⟨cx, nn, args, Qd, Ed, hc, hsp⟩ := h
    obtain ⟨b, xs, rfl, h, q⟩ := hsp
    exact hc.ra.len
  obtain ⟨cx, nn, args, Qd, Ed, hc, hsp⟩ := h
  obtain ⟨b, xs, rfl, h, q⟩ := hsp
  refine ⟨_, (pss_cons (ps_if (PW.pt (pw_or (pt_not (pt_val (pe_call (ok_is_row T) (hr.mono (by decide)) (by rfl) T.g_is_row T.F_is_row.kp T.b_is_row .nil pass0 (pa_cons (pv 0) pa_nil)))) (pw_or1 (pt_not (pt_chain op_le op_le pe_int (pe_callB (call_lenK (K := K)) (by rfl) T.z_len (by decide +kernel) (pa_cons (pv 0) pa_nil)) (pe_glob (by rfl) T.c_MOST_IN_ROW T.r_MOST_IN_ROW)))))) (pss_one ps_never) pss_nil)
      (pss_cons (ps_if (PW.pt (pw_or (pt_cmpR op_lt (pe_ix (ix_K (K := K)) (pv 0) pe_int (fun _ _ => rfl)) pe_int (nomark _)) (pw_or1 (pt_cmpR op_gt (pe_ix (ix_K (K := K)) (pv 0) (pe_un un_neg pe_int) (fun _ _ => rfl)) (pe_glob (by rfl) T.c_MOST_TOLD T.r_MOST_TOLD) (nomark _))))) (pss_one ps_never) pss_nil)
      (pss_one (ps_if (pt_not (pt_val (pe_callB (cr_allK (K := K) (by rfl)) (by rfl) T.z_all (by decide +kernel) (pa_cons (pe_lc (own := [("one", 1), ("other", 2)]) (tt := tYes) (by rfl) sc_need_numbers.nd (HU.pi_zipK (K := K) (by rfl) T.z_zip (pa_cons (pv 0) (pa_cons (pe_slice (sl_K (K := K)) (pv 0) (po_some pe_int) po_none) pa_nil))) (blkOk_by (own := [("one", 1), ("other", 2)]) (N := n_need_numbers) (sc := defScope s_need_numbers) (by decide +kernel)) (fun _ _ _ _ _ => (pg_tupK (K := K) 2 (by rfl) (pgs_cons (pg_name (i := 1) sc_need_numbers.nd rfl (by first | exact .inl rfl | exact .inr rfl)) (pgs_cons (pg_name (i := 2) sc_need_numbers.nd rfl (by first | exact .inl rfl | exact .inr rfl)) pgs_nil)))) (fun _ _ _ _ _ => pts_nil) (fun _ _ _ _ _ => (pe_cmpR op_lt (pv 1) (pv 2) (nomark _)))) pa_nil)))) (pss_one ps_never) pss_nil)))), HD.enter (ρ := [HD.S.v (sq b xs : HD.D), HD.S.un, HD.S.un]) hc rfl ?_⟩
  clear hc

  obtain ⟨hl, hu, hb⟩ := h
  match xs, hl, hu, hb with
  | x0 :: x1 :: x2 :: r, hl, hu, hb =>
  generalize ex : x0 :: x1 :: x2 :: r = xs at *
  have h0 : atI (xs.map HD.D.int) 0 = some (.int x0) := by rw [← ex]; exact atI_nat (j := 0) rfl
  have b0 := hb x0 (by rw [← ex]; simp)
  obtain ⟨z, hz, bz⟩ : ∃ z, atI (xs.map HD.D.int) (-1) = some (.int z) ∧ (1 ≤ z ∧ z ≤ 99) := by
    have e := at_neg (xs := xs.map HD.D.int) (k := 1) (by omega) (by rw [List.length_map]; omega)
    rw [show (-((1 : Nat) : Int)) = -1 from rfl, List.length_map, List.getElem?_map] at e
    have hi : xs.length - 1 < xs.length := by omega
    rw [List.getElem?_eq_getElem hi] at e
    exact ⟨_, e, hb _ (List.getElem_mem hi)⟩
  cases b with
  | true =>
    show HD.GS _ [HD.S.v (.lst (xs.map HD.D.int)), .un, .un] _ _ _ _
    fail "dr"
    refine use_is_row ⟨rfl, fun ys e => ints_row e (by omega)⟩ ?_
    rw [show HD.D.seq (.lst (xs.map HD.D.int)) = some (xs.map HD.D.int) from rfl, row_yes]
    fail "dr"
    rw [List.length_map]
    fail "dr"
    refine HD.ix_ (xs := xs.map HD.D.int) rfl h0 ?_
    fail "dr"
    refine HD.ix_ (xs := xs.map HD.D.int) rfl hz ?_
    fail "dr"
    refine HU.izipL_ ?_
    fail "dr"
    rw [cut1]
    refine ⟨_, _, _, _, rfl, rfl, rfl, rfl, ?_⟩
    try fail "dn"
    refine HD.CpD.mapD (fun _ => .bl true) (by rw [HU.zipD_len, List.length_map]; omega) (fun d hd ys => ?_) ?_
    · obtain ⟨u, v, rfl, huv⟩ := pairs_up hu d hd
      fail "dr"
      rw [decide_eq_true huv]
      exact ⟨rfl, rfl, rfl⟩
    · fail "dr"
      refine HD.all_ (it := .o (.lst ((HU.zipD (xs.map HD.D.int) ((xs.map HD.D.int).drop 1)).map fun _ => .bl true))) (bs := (HU.zipD (xs.map HD.D.int) ((xs.map HD.D.int).drop 1)).map fun _ => true) (by show HD.D.lst _ = _; rw [List.map_map]; rfl) ?_
      rw [show (((HU.zipD (xs.map HD.D.int) ((xs.map HD.D.int).drop 1)).map fun _ => true).all id) = true from by rw [List.all_map]; exact List.all_eq_true.mpr fun _ _ => rfl]
      fail "dr"
      exact q
  | false =>
    show HD.GS _ [HD.S.v (.tup (xs.map HD.D.int)), .un, .un] _ _ _ _
    fail "dr"
    refine use_is_row ⟨rfl, fun ys e => ints_row e (by omega)⟩ ?_
    rw [show HD.D.seq (.tup (xs.map HD.D.int)) = some (xs.map HD.D.int) from rfl, row_yes]
    fail "dr"
    rw [List.length_map]
    fail "dr"
    refine HD.ix_ (xs := xs.map HD.D.int) rfl h0 ?_
    fail "dr"
    refine HD.ix_ (xs := xs.map HD.D.int) rfl hz ?_
    fail "dr"
    refine HU.izipT_ ?_
    fail "dr"
    rw [cut1]
    refine ⟨_, _, rfl, rfl, ?_⟩
    try fail "dn"
    refine HD.CpD.mapD (fun _ => .bl true) (by rw [HU.zipD_len, List.length_map]; omega) (fun d hd ys => ?_) ?_
    · obtain ⟨u, v, rfl, huv⟩ := pairs_up hu d hd
      fail "dr"
      rw [decide_eq_true huv]
      exact ⟨rfl, rfl, rfl⟩
    · fail "dr"
      refine HD.all_ (it := .o (.lst ((HU.zipD (xs.map HD.D.int) ((xs.map HD.D.int).drop 1)).map fun _ => .bl true))) (bs := (HU.zipD (xs.map HD.D.int) ((xs.map HD.D.int).drop 1)).map fun _ => true) (by show HD.D.lst _ = _; rw [List.map_map]; rfl) ?_
      rw [show (((HU.zipD (xs.map HD.D.int) ((xs.map HD.D.int).drop 1)).map fun _ => true).all id) = true from by rw [List.all_map]; exact List.all_eq_true.mpr fun _ _ => rfl]
      fail "dr"
      exact q
local macro_rules | `(tactic| fail "du") => `(tactic| ((with_reducible refine' use_need_numbers ?h ?_); (case h => assumption)))
theorem row_three {xs : List Int} (h : Row xs) : ∃ a b c r, xs = a :: b :: c :: r ∧ Grow a b b c := by
  obtain ⟨hl, hu, hb⟩ := h
  match xs, hl, hu, hb with
  | a :: b :: c :: r, hl, hu, hb =>
  refine ⟨a, b, c, r, rfl, (hb a (by simp)).1, ?_, Int.le_refl _, ?_, (hb c (by simp)).2⟩
  · exact (List.pairwise_cons.mp hu).1 b (by simp)
  · exact (List.pairwise_cons.mp (List.pairwise_cons.mp hu).2).1 c (by simp)
def resR : List Int → Bool × Int
  | a :: b :: c :: _ => res a b b c
  | _ => (false, 0)
def spd_step_power (T : Tx P K mg) (ds : List HD.D) (n : Nat) (Q : HD.I → Nat → Prop) (_ : HD.XD) : Prop := ∃ (b : Bool) (xs : List Int), ds = [sq b xs] ∧ Row xs ∧ Q (.o (resP T (resR xs))) n
theorem ok_step_power (T : Tx P K mg) : FnOk P w K mg base CX0 8 T.f_step_power T.fd_step_power ["numbers"] (HD.lift K (spd_step_power T)) := by
  refine T.F_step_power.ok sc_step_power (fun vs H Q E h => ?_) (fun cdv A outer s H vs Q E hr h => ?_)
  · obtain ⟨cx, nn, args, Qd, Ed, hc, hsp⟩ := h
    obtain ⟨b, xs, rfl, h, q⟩ := hsp
    exact hc.ra.len
  obtain ⟨cx, nn, args, Qd, Ed, hc, hsp⟩ := h
  obtain ⟨b, xs, rfl, h, q⟩ := hsp
  refine ⟨_, (pss_one (ps_ret (pe_call (ok_power_of T) (hr.mono (by decide)) (by rfl) T.g_power_of T.F_power_of.kp T.b_power_of .nil pass0 (pa_cons (pe_ix (ix_K (K := K)) (pv 0) pe_int (fun _ _ => rfl)) (pa_cons (pe_ix (ix_K (K := K)) (pv 0) pe_int (fun _ _ => rfl)) (pa_cons (pe_ix (ix_K (K := K)) (pv 0) pe_int (fun _ _ => rfl)) (pa_cons (pe_ix (ix_K (K := K)) (pv 0) pe_int (fun _ _ => rfl)) pa_nil))))))), HD.enter (ρ := [HD.S.v (sq b xs : HD.D)]) hc rfl ?_⟩
  clear hc

  obtain ⟨u, v, w, r, rfl, g⟩ := row_three h
  have h0 : atI ((u :: v :: w :: r).map HD.D.int) 0 = some (.int u) := atI_nat (j := 0) rfl
  have h1 : atI ((u :: v :: w :: r).map HD.D.int) 1 = some (.int v) := atI_nat (j := 1) rfl
  have h2 : atI ((u :: v :: w :: r).map HD.D.int) 2 = some (.int w) := atI_nat (j := 2) rfl
  simp only [resR] at q
  generalize ex : u :: v :: w :: r = xs at *
  cases b with
  | true =>
    show HD.GS _ [HD.S.v (.lst (xs.map HD.D.int))] _ _ _ _
    fail "dr"
    refine HD.ix_ (xs := xs.map HD.D.int) rfl h0 ?_
    fail "dr"
    refine HD.ix_ (xs := xs.map HD.D.int) rfl h1 ?_
    fail "dr"
    refine HD.ix_ (xs := xs.map HD.D.int) rfl h1 ?_
    fail "dr"
    refine HD.ix_ (xs := xs.map HD.D.int) rfl h2 ?_
    fail "dr"
    exact q
  | false =>
    show HD.GS _ [HD.S.v (.tup (xs.map HD.D.int))] _ _ _ _
    fail "dr"
    refine HD.ix_ (xs := xs.map HD.D.int) rfl h0 ?_
    fail "dr"
    refine HD.ix_ (xs := xs.map HD.D.int) rfl h1 ?_
    fail "dr"
    refine HD.ix_ (xs := xs.map HD.D.int) rfl h1 ?_
    fail "dr"
    refine HD.ix_ (xs := xs.map HD.D.int) rfl h2 ?_
    fail "dr"
    exact q
theorem use_step_power {T : Tx P K mg} {b : Bool} {xs : List Int} {n : Nat} {Q : HD.I → Nat → Prop} {E : HD.XD} (h : Row xs) (q : Q (.o (resP T (resR xs))) n) : spd_step_power T [sq b xs] n Q E := ⟨b, xs, rfl, h, q⟩
def stepB (xs : List Int) (i : Nat) (p : Int) : Bool := match xs.drop i with
  | a :: b :: c :: _ => By a b b c p
  | _ => false
theorem cut3 {xs : List Int} {i : Nat} (h : i + 3 ≤ xs.length) : HD.cutD (xs.map HD.D.int) (some (i : Int)) (some ((i : Int) + 3)) = ((xs.drop i).take 3).map HD.D.int := by
  unfold HD.cutD
  rw [show ((i : Int) + 3) = ((i + 3 : Nat) : Int) from rfl, HT.sIx_nat, HT.sIx_nat, List.length_map, Nat.min_eq_left h, Nat.min_eq_left (show i ≤ xs.length by omega), show i + 3 - i = 3 by omega, List.map_take, List.map_drop]
theorem drop3 {xs : List Int} {i : Nat} (hr : Row xs) (h : i + 3 ≤ xs.length) : ∃ a b c r, xs.drop i = a :: b :: c :: r ∧ Ok4 a b b c := by
  have hl : 3 ≤ (xs.drop i).length := by rw [List.length_drop]; omega
  have hb : ∀ x ∈ xs.drop i, 1 ≤ x ∧ x ≤ 99 := fun x hx => hr.bd x (List.mem_of_mem_drop hx)
  match e : xs.drop i, hl, hb with
  | a :: b :: c :: r, _, hb =>
    have h1 := hb a (by simp); have h2 := hb b (by simp); have h3 := hb c (by simp)
    exact ⟨a, b, c, r, rfl, by omega, by omega, by omega, by omega⟩
def spd_is_step_by (ds : List HD.D) (n : Nat) (Q : HD.I → Nat → Prop) (_ : HD.XD) : Prop := ∃ (b : Bool) (xs : List Int) (i : Nat) (p : Int), ds = [sq b xs, .int i, .int p] ∧ (Row xs ∧ i + 3 ≤ xs.length ∧ (-80 ≤ p ∧ p ≤ 80)) ∧ Q (.v (.bl (stepB xs i p))) n
theorem use_is_step_by {b : Bool} {xs : List Int} {i : Nat} {p : Int} {n : Nat} {Q : HD.I → Nat → Prop} {E : HD.XD} (h : Row xs ∧ i + 3 ≤ xs.length ∧ (-80 ≤ p ∧ p ≤ 80)) (q : Q (.v (.bl (stepB xs i p))) n) : spd_is_step_by [sq b xs, .int i, .int p] n Q E := ⟨b, xs, i, p, rfl, h, q⟩
theorem ok_is_step_by (T : Tx P K mg) : FnOk P w K mg base CX0 5 T.f_is_step_by T.fd_is_step_by ["numbers", "step", "power"] (HD.lift K spd_is_step_by) := by
  refine T.F_is_step_by.ok sc_is_step_by (fun vs H Q E h => ?_) (fun cdv A outer s H vs Q E hr h => ?_)
  · obtain ⟨cx, nn, args, Qd, Ed, hc, hsp⟩ := h
    obtain ⟨b, xs, i, p, rfl, h, q⟩ := hsp
    exact hc.ra.len
  obtain ⟨cx, nn, args, Qd, Ed, hc, hsp⟩ := h
  obtain ⟨b, xs, i, p, rfl, h, q⟩ := hsp
  refine ⟨_, (pss_cons (ps_asg (pe_slice (sl_K (K := K)) (pv 0) (po_some (pv 1)) (po_some (pe_op (op_addK (K := K)) (pv 1) pe_int))) (HU.pg_seqK (K := K) 3 (by rfl) (pgs_cons (pg_name (i := 3) sc_is_step_by.nd rfl (by first | exact .inl rfl | exact .inr rfl)) (pgs_cons (pg_name (i := 4) sc_is_step_by.nd rfl (by first | exact .inl rfl | exact .inr rfl)) (pgs_cons (pg_name (i := 5) sc_is_step_by.nd rfl (by first | exact .inl rfl | exact .inr rfl)) pgs_nil)))))
      (pss_one (ps_ret (pe_call (ok_holds_by T) (hr.mono (by decide)) (by rfl) T.g_holds_by T.F_holds_by.kp T.b_holds_by .nil pass0 (pa_cons (pv 3) (pa_cons (pv 4) (pa_cons (pv 4) (pa_cons (pv 5) (pa_cons (pv 2) pa_nil))))))))), HD.enter (ρ := [HD.S.v (sq b xs : HD.D), HD.S.v (.int i : HD.D), HD.S.v (.int p : HD.D), HD.S.un, HD.S.un, HD.S.un]) hc rfl ?_⟩
  clear hc

  obtain ⟨hr', hi, hp⟩ := h
  obtain ⟨u, v, w, r, e, o⟩ := drop3 hr' hi
  unfold stepB at q
  rw [e] at q
  have ec : HD.cutD (xs.map HD.D.int) (some (i : Int)) (some ((i : Int) + 3)) = [.int u, .int v, .int w] := by rw [cut3 hi, e]; rfl
  cases b with
  | true =>
    show HD.GS _ [HD.S.v (.lst (xs.map HD.D.int)), _, _, _, _, _] _ _ _ _
    fail "dr"
    rw [ec]
    refine HU.gseqL_ (it := .o (.lst [.int u, .int v, .int w])) rfl rfl ?_
    fail "dr"
    exact q
  | false =>
    show HD.GS _ [HD.S.v (.tup (xs.map HD.D.int)), _, _, _, _, _] _ _ _ _
    fail "dr"
    rw [ec]
    refine HU.gseqT_ rfl ?_
    fail "dr"
    exact q
local macro_rules | `(tactic| fail "du") => `(tactic| ((with_reducible refine' use_is_step_by ?h ?_); (case h => first | assumption | (refine ⟨by assumption, ?_, ?_⟩ <;> first | assumption | omega))))
/-- what lies between two powers -/
def Btw (a b c d low : Int) : Prop := if 0 ≤ low then a * d < b * c ∧ (low = 0 ∨ S a b c d low < 0) ∧ 0 < S a b c d (low + 1) else b * c < a * d ∧ 0 < S a b c d low ∧ (low = -1 ∨ S a b c d (low + 1) < 0)
theorem isWi_t {v lo hi : Int} (h : lo ≤ v ∧ v ≤ hi) : isWi (.int v) (some lo) (some hi) = true := by simp only [isWi]; rw [decide_eq_true h.1, decide_eq_true h.2]; rfl
/-- what is told is so -/
def Tells (a b c d : Int) (r : Bool × Int) : Prop := if r.1 = true then (-63 ≤ r.2 ∧ r.2 ≤ 68) ∧ By a b c d r.2 = true else (-64 ≤ r.2 ∧ r.2 ≤ 68) ∧ Btw a b c d r.2
theorem resS_eq {a b c d s T : Int} (h : lst a b c d s = T) : resS a b c d s = if S a b c d (s * T) = 0 then (true, s * T) else (false, if s > 0 then T - 1 else -T) := by
  unfold resS
  rw [h]
theorem res_at {a b c d : Int} : (a * d = b * c → res a b c d = (true, 0)) ∧ (a * d < b * c → res a b c d = resS a b c d 1) ∧ (b * c < a * d → res a b c d = resS a b c d (-1)) := by
  refine ⟨fun h => if_pos h, fun h => ?_, fun h => ?_⟩
  · unfold res
    rw [if_neg (show ¬ a * d = b * c by omega), if_pos h]
  · unfold res
    rw [if_neg (show ¬ a * d = b * c by omega), if_neg (show ¬ a * d < b * c by omega)]
theorem By_ne {a b c d p : Int} (h : p ≠ 0) (e : S a b c d p = 0) : By a b c d p = true := by
  unfold By
  rw [if_neg h, e]
  rfl
theorem Grow.tells {a b c d : Int} (g : Grow a b c d) : Tells a b c d (res a b c d) := by
  obtain ⟨r1, r2, r3⟩ := res_at (a := a) (b := b) (c := c) (d := d)
  rcases Int.lt_trichotomy (a * d) (b * c) with h | h | h
  · obtain ⟨T, t1, t2, t, e⟩ := g.turn h
    rw [r2 h, resS_eq e, Int.one_mul]
    by_cases z : S a b c d T = 0
    · rw [if_pos z]
      have hT : T ≠ 69 := fun y => by have := g.at69; rw [y] at z; omega
      exact (show _ ∧ _ from ⟨⟨by omega, by omega⟩, By_ne (by omega) z⟩)
    · rw [if_neg z, if_pos (show (1 : Int) > 0 by omega)]
      refine (show _ ∧ _ from ⟨⟨by omega, by omega⟩, ?_⟩)
      unfold Btw
      rw [if_pos (by omega)]
      refine ⟨h, ?_, ?_⟩
      · rcases Int.lt_or_eq_of_le t1 with y | y
        · exact .inr (t.neg _ (by omega) (by omega))
        · exact .inl (by omega)
      · rw [show T - 1 + 1 = T by omega]
        have := t.here
        omega
  · rw [r1 h]
    refine (show _ ∧ _ from ⟨⟨by omega, by omega⟩, ?_⟩)
    unfold By
    rw [if_pos rfl]
    exact decide_eq_true h
  · obtain ⟨T, t1, t2, t, e⟩ := g.turn' h
    rw [r3 h, resS_eq e, Int.neg_mul, Int.one_mul]
    have th : 0 ≤ S a b c d (-T) := t.here
    by_cases z : S a b c d (-T) = 0
    · rw [if_pos z]
      have hT : T ≠ 64 := fun y => by have := g.at64 h; rw [y] at z; omega
      exact (show _ ∧ _ from ⟨⟨by omega, by omega⟩, By_ne (by omega) z⟩)
    · rw [if_neg z, if_neg (show ¬ (-1 : Int) > 0 by omega)]
      refine (show _ ∧ _ from ⟨⟨by omega, by omega⟩, ?_⟩)
      unfold Btw
      rw [if_neg (show ¬ 0 ≤ -T by omega)]
      refine ⟨h, (show 0 < S a b c d (-T) by omega), ?_⟩
      rcases Int.lt_or_eq_of_le t1 with y | y
      · refine .inr ?_
        have := t.neg (T - 1) (by omega) (by omega)
        rw [show -T + 1 = -(T - 1) by omega]
        exact this
      · exact .inl (by omega)
theorem By_cases {a b c d v : Int} (h : By a b c d v = true) : v = 0 ∧ a * d = b * c ∨ v ≠ 0 ∧ S a b c d v = 0 := by
  unfold By at h
  split at h
  · exact .inl ⟨by assumption, of_decide_eq_true h⟩
  · exact .inr ⟨by assumption, of_decide_eq_true h⟩
theorem Grow.by_res {a b c d v : Int} (g : Grow a b c d) (h : By a b c d v = true) : res a b c d = (true, v) := by
  obtain ⟨r1, r2, r3⟩ := res_at (a := a) (b := b) (c := c) (d := d)
  rcases By_cases h with ⟨rfl, e⟩ | ⟨hv, e⟩
  · exact r1 e
  · rcases Int.lt_trichotomy (a * d) (b * c) with z | z | z
    · obtain ⟨T, t1, t2, t, el⟩ := g.turn z
      have hT : v = T := by
        rcases Int.lt_trichotomy v 0 with y | y | y
        · have := t.opp v y; omega
        · exact absurd y hv
        · rcases Int.lt_trichotomy v T with u | u | u
          · have := t.neg v y u; omega
          · exact u
          · have := t.pos v u; omega
      subst hT
      rw [r2 z, resS_eq el, Int.one_mul, if_pos e]
    · have := g.flat z v hv; omega
    · obtain ⟨T, t1, t2, t, el⟩ := g.turn' z
      have n1 : ∀ p, S a b c d p = S a b c d (-(-p)) := fun p => by rw [Int.neg_neg]
      have hT : -v = T := by
        rw [n1] at e
        rcases Int.lt_trichotomy (-v) 0 with y | y | y
        · have := t.opp (-v) y; omega
        · omega
        · rcases Int.lt_trichotomy (-v) T with u | u | u
          · have := t.neg (-v) y u; omega
          · exact u
          · have := t.pos (-v) u; omega
      subst hT
      rw [r3 z, resS_eq el, Int.neg_mul, Int.one_mul, Int.neg_neg, if_pos e]
/-- what is told of a row: the power of all its steps, or the first step that breaks -/
inductive RR (xs : List Int) : Bool × Int → Prop
  | flat : (resR xs).1 = false → RR xs (false, 0)
  | bad {i : Nat} : (resR xs).1 = true → 1 ≤ i → i + 3 ≤ xs.length → (∀ j, 1 ≤ j → j < i → stepB xs j (resR xs).2 = true) → stepB xs i (resR xs).2 = false → RR xs (false, i)
  | good : (resR xs).1 = true → (∀ j, 1 ≤ j → j + 3 ≤ xs.length → stepB xs j (resR xs).2 = true) → RR xs (true, (resR xs).2)
theorem RR.uniq {xs : List Int} {r s : Bool × Int} (h : RR xs r) (g : RR xs s) : r = s := by
  cases h with
  | flat h1 =>
    cases g with
    | flat _ => rfl
    | bad g1 => rw [h1] at g1; cases g1
    | good g1 => rw [h1] at g1; cases g1
  | @bad i h1 h2 h3 h4 h5 =>
    cases g with
    | flat g1 => rw [h1] at g1; cases g1
    | @bad j g1 g2 g3 g4 g5 =>
      rcases Nat.lt_trichotomy i j with z | z | z
      · rw [g4 i h2 z] at h5; cases h5
      · rw [z]
      · rw [h4 j g2 z] at g5; cases g5
    | good g1 g2 => rw [g2 i h2 h3] at h5; cases h5
  | good h1 h2 =>
    cases g with
    | flat g1 => rw [h1] at g1; cases g1
    | @bad j g1 g2 g3 g4 g5 => rw [h2 j g2 g3] at g5; cases g5
    | good _ _ => rfl
def rowP (T : Tx P K mg) (r : Bool × Int) : HD.D := if r.1 = true then .ins T.C_ByPower [("word", .str "bypower"), ("parts", .tup [.int r.2]), ("power", .int r.2)] else .ins T.C_Uneven [("word", .str "uneven"), ("parts", .tup [.int r.2]), ("step", .int r.2)]
theorem res_bd {xs : List Int} (h : Row xs) : (resR xs).1 = true → -80 ≤ (resR xs).2 ∧ (resR xs).2 ≤ 80 := by
  obtain ⟨a, b, c, r, rfl, g⟩ := row_three h
  have t := g.tells
  intro e
  simp only [resR] at e ⊢
  unfold Tells at t
  rw [if_pos e] at t
  omega
def spd_power_of_row (T : Tx P K mg) (ds : List HD.D) (n : Nat) (Q : HD.I → Nat → Prop) (_ : HD.XD) : Prop := ∃ (b : Bool) (xs : List Int), ds = [sq b xs] ∧ Row xs ∧ ∀ r, RR xs r → Q (.o (rowP T r)) n
theorem ok_power_of_row (T : Tx P K mg) : FnOk P w K mg base CX0 9 T.f_power_of_row T.fd_power_of_row ["numbers"] (HD.lift K (spd_power_of_row T)) := by
  refine T.F_power_of_row.ok sc_power_of_row (fun vs H Q E h => ?_) (fun cdv A outer s H vs Q E hr h => ?_)
  · obtain ⟨cx, nn, args, Qd, Ed, hc, hsp⟩ := h
    obtain ⟨b, xs, rfl, h, q⟩ := hsp
    exact hc.ra.len
  obtain ⟨cx, nn, args, Qd, Ed, hc, hsp⟩ := h
  obtain ⟨b, xs, rfl, h, q⟩ := hsp
  refine ⟨_, (pss_cons (ps_expr (pe_call (ok_need_numbers T) (hr.mono (by decide)) (by rfl) T.g_need_numbers T.F_need_numbers.kp T.b_need_numbers .nil pass0 (pa_cons (pv 0) pa_nil)))
      (pss_cons (ps_set (i := 1) sc_power_of_row.nd rfl (by first | exact .inl rfl | exact .inr rfl) (pe_call (ok_step_power T) (hr.mono (by decide)) (by rfl) T.g_step_power T.F_step_power.kp T.b_step_power .nil pass0 (pa_cons (pv 0) pa_nil)))
      (pss_cons (ps_if (pt_val (pe_callB (call_isiK' (K := K)) (by rfl) T.z_isinstance (by decide +kernel) (pa_cons (pv 1) (pa_cons (pe_glob (v := .ref T.C_Between) (by rfl) T.g_Between rfl) pa_nil)))) (pss_one (ps_ret (StX.pe_makeR T.mk_Uneven (ok_Uneven_init T) (hr.mono (by decide)) (by rfl) T.g_Uneven pass0 (pa_cons pe_int pa_nil)))) pss_nil)
      (pss_cons (ps_for PassesOwn.never (by rfl) (pi_range2 (by rfl) T.z_range (pa_cons pe_int (pa_cons (pe_op op_sub (pe_callB (call_lenK (K := K)) (by rfl) T.z_len (by decide +kernel) (pa_cons (pv 0) pa_nil)) pe_int) pa_nil))) (pg_name (i := 2) sc_power_of_row.nd rfl (by first | exact .inl rfl | exact .inr rfl)) (pss_one (ps_if (pt_not (pt_val (pe_call (ok_is_step_by T) (hr.mono (by decide)) (by rfl) T.g_is_step_by T.F_is_step_by.kp T.b_is_step_by .nil pass0 (pa_cons (pv 0) (pa_cons (pv 2) (pa_cons (HC.pe_fldK (K := K) (pv 1)) pa_nil)))))) (pss_one (ps_ret (StX.pe_makeR T.mk_Uneven (ok_Uneven_init T) (hr.mono (by decide)) (by rfl) T.g_Uneven pass0 (pa_cons (pv 2) pa_nil)))) pss_nil)))
      (pss_one (ps_ret (StX.pe_makeR T.mk_ByPower (ok_ByPower_init T) (hr.mono (by decide)) (by rfl) T.g_ByPower pass0 (pa_cons (HC.pe_fldK (K := K) (pv 1)) pa_nil)))))))), HD.enter (ρ := [HD.S.v (sq b xs : HD.D), HD.S.un, HD.S.un]) hc rfl ?_⟩
  clear hc

  have hb := res_bd h
  have hlen : (HD.I.v (sq b xs)).seq = some (xs.map HD.D.int) := by cases b <;> rfl
  obtain ⟨hl1, hl2⟩ := h.len
  fail "dr"
  refine use_step_power h ?_
  fail "dr"
  cases e : (resR xs).1 with
  | false =>
    have er : resP T (resR xs) = .ins T.C_Between [("word", .str "between"), ("parts", .tup [.int (resR xs).2]), ("low", .int (resR xs).2)] := by unfold resP; rw [e]; rfl
    rw [er]
    fail "dr"
    refine use_Uneven_init rfl ?_
    fail "dr"
    exact q (false, 0) (.flat e)
  | true =>
    obtain ⟨hb1, hb2⟩ := hb e
    have er : resP T (resR xs) = .ins T.C_ByPower [("word", .str "bypower"), ("parts", .tup [.int (resR xs).2]), ("power", .int (resR xs).2)] := by unfold resP; rw [e]; rfl
    rw [er]
    fail "dr"
    refine HD.len_ hlen ?_
    rw [List.length_map]
    fail "dr"
    refine HD.ForD.inv (fun i ρ m => m = nn ∧ (∃ y, ρ = [.v (sq b xs), .ow (.ins T.C_ByPower [("word", .str "bypower"), ("parts", .tup [.int (resR xs).2]), ("power", .int (resR xs).2)]), y]) ∧ ∀ j, 1 ≤ j → j < 1 + i → stepB xs j (resR xs).2 = true) ⟨rfl, ⟨_, rfl⟩, fun j h1 h2 => by omega⟩ (fun i d ρ m hd hi hP => ?_) (fun ρ m hP => ?_)
    · obtain ⟨rfl, ⟨y, rfl⟩, hs⟩ := hP
      obtain ⟨hi2, rfl⟩ := HD.rngD_at hd
      fail "dr"
      refine use_is_step_by (i := 1 + i) ⟨h, by omega, hb1, hb2⟩ ?_
      fail "dr"
      cases e2 : stepB xs (1 + i) (resR xs).2 with
      | true =>
        fail "dr"
        refine ⟨rfl, ⟨_, rfl⟩, fun j h1 h2 => ?_⟩
        rcases Nat.lt_or_ge j (1 + i) with z | z
        · exact hs j h1 z
        · rw [show j = 1 + i by omega]; exact e2
      | false =>
        fail "dr"
        refine use_Uneven_init rfl ?_
        fail "dr"
        exact q (false, ((1 + i : Nat) : Int)) (.bad e (by omega) (by omega) hs e2)
    · obtain ⟨rfl, ⟨y, rfl⟩, hs⟩ := hP
      rw [HD.rngD_len] at hs
      fail "dr"
      refine use_ByPower_init rfl ?_
      fail "dr"
      exact q _ (.good e fun j h1 h2 => hs j h1 (by omega))
theorem use_power_of_row {T : Tx P K mg} {b : Bool} {xs : List Int} {n : Nat} {Q : HD.I → Nat → Prop} {E : HD.XD} (h : Row xs) (q : ∀ r, RR xs r → Q (.o (rowP T r)) n) : spd_power_of_row T [sq b xs] n Q E := ⟨b, xs, rfl, h, q⟩
/-- the first many steps are by p -/
def allB (xs : List Int) (p : Int) (m : Nat) : Bool := (List.range m).all fun i => stepB xs i p
def byR (xs : List Int) (d : HD.D) : Bool := match d with
  | .int p => allB xs p (xs.length - 2)
  | _ => false
def unR (xs : List Int) (d : HD.D) : Bool := match d with
  | .int v => if v = 0 then !(resR xs).1 else (resR xs).1 && (allB xs (resR xs).2 v.toNat && !stepB xs v.toNat (resR xs).2)
  | _ => false
inductive Shown (T : Tx P K mg) (xs : List Int) : HD.D → Bool → Prop
  | byp {fs d} : fs.lookup ("power" : Str) = some d → d.tn.isSome = true → Shown T xs (.ins T.C_ByPower fs) (isWi d (some (-80)) (some 80) && byR xs d)
  | une {fs d} : fs.lookup ("step" : Str) = some d → d.tn.isSome = true → Shown T xs (.ins T.C_Uneven fs) (isWi d (some 0) (some ((xs.length : Int) - 3)) && unR xs d)
  | built {v} : v.tn.isSome = true → Shown T xs v false
  | btw {fs} : Shown T xs (.ins T.C_Between fs) false
  | pap {fs} : Shown T xs (.ins T.C_Paper fs) false
  | den {fs} : Shown T xs (.ins T.C_Denial fs) false
theorem steps_map {xs : List Int} {p : Int} (m : Nat) : ((HD.rngD 0 m).map fun d => match d with | .int i => HD.D.bl (stepB xs i.toNat p) | d => d) = ((List.range m).map fun i => stepB xs i p).map HD.D.bl := by
  unfold HD.rngD
  rw [List.map_map, List.map_map]
  refine List.map_congr_left fun i _ => ?_
  show HD.D.bl (stepB xs (0 + (i : Int)).toNat p) = HD.D.bl (stepB xs i p)
  rw [Int.zero_add, Int.toNat_natCast]
def spd_shows_power_of_row (T : Tx P K mg) (ds : List HD.D) (n : Nat) (Q : HD.I → Nat → Prop) (_ : HD.XD) : Prop := ∃ (b : Bool) (xs : List Int) (v : HD.D) (r : Bool), ds = [sq b xs, v] ∧ Row xs ∧ Shown T xs v r ∧ Q (.v (.bl r)) n
theorem ok_shows_power_of_row (T : Tx P K mg) : FnOk P w K mg base CX0 9 T.f_shows_power_of_row T.fd_shows_power_of_row ["numbers", "value"] (HD.lift K (spd_shows_power_of_row T)) := by
  refine T.F_shows_power_of_row.ok sc_shows_power_of_row (fun vs H Q E h => ?_) (fun cdv A outer s H vs Q E hr h => ?_)
  · obtain ⟨cx, nn, args, Qd, Ed, hc, hsp⟩ := h
    obtain ⟨b, xs, v, r, rfl, h, hv, q⟩ := hsp
    exact hc.ra.len
  obtain ⟨cx, nn, args, Qd, Ed, hc, hsp⟩ := h
  obtain ⟨b, xs, v, r, rfl, h, hv, q⟩ := hsp
  refine ⟨_, (pss_cons (ps_expr (pe_call (ok_need_numbers T) (hr.mono (by decide)) (by rfl) T.g_need_numbers T.F_need_numbers.kp T.b_need_numbers .nil pass0 (pa_cons (pv 0) pa_nil)))
      (pss_cons (ps_set (i := 2) sc_shows_power_of_row.nd rfl (by first | exact .inl rfl | exact .inr rfl) (pe_op op_sub (pe_callB (call_lenK (K := K)) (by rfl) T.z_len (by decide +kernel) (pa_cons (pv 0) pa_nil)) pe_int))
      (pss_cons (ps_if (pt_val (pe_callB (call_isiK' (K := K)) (by rfl) T.z_isinstance (by decide +kernel) (pa_cons (pv 1) (pa_cons (pe_glob (v := .ref T.C_ByPower) (by rfl) T.g_ByPower rfl) pa_nil)))) (pss_cons (ps_if (pt_not (pt_val (pe_call (ok_is_within T) (hr.mono (by decide)) (by rfl) T.g_is_within T.F_is_within.kp T.b_is_within .nil pass0 (pa_cons (HC.pe_fldK (K := K) (pv 1)) (pa_cons (pe_un un_neg (pe_glob (by rfl) T.c_MOST_POWER T.r_MOST_POWER)) (pa_cons (pe_glob (by rfl) T.c_MOST_POWER T.r_MOST_POWER) pa_nil)))))) (pss_one (ps_ret pe_bl)) pss_nil)
      (pss_one (ps_ret (pe_callB (cr_allK (K := K) (by rfl)) (by rfl) T.z_all (by decide +kernel) (pa_cons (pe_lc (own := [("step", 3)]) (g := gName 3) (tt := tYes) (by rfl) sc_shows_power_of_row.nd (pi_range1 (by rfl) T.z_range (pa_cons (pe_op (op_addK (K := K)) (pv 2) pe_int) pa_nil)) (blkOk_by (own := [("step", 3)]) (N := n_shows_power_of_row) (sc := defScope s_shows_power_of_row) (by decide +kernel)) (fun _ _ _ _ _ => (pg_name (i := 3) sc_shows_power_of_row.nd rfl (by first | exact .inl rfl | exact .inr rfl))) (fun _ _ _ _ _ => pts_nil) (fun _ _ _ _ _ => (pe_call (ok_is_step_by T) (hr.mono (by decide)) (by rfl) T.g_is_step_by T.F_is_step_by.kp T.b_is_step_by .nil pass0 (pa_cons (pv 0) (pa_cons (pv 3) (pa_cons (HC.pe_fldK (K := K) (pv 1)) pa_nil)))))) pa_nil))))) pss_nil)
      (pss_cons (ps_if (PW.pt (pw_or (pt_not (pt_val (pe_callB (call_isiK' (K := K)) (by rfl) T.z_isinstance (by decide +kernel) (pa_cons (pv 1) (pa_cons (pe_glob (v := .ref T.C_Uneven) (by rfl) T.g_Uneven rfl) pa_nil))))) (pw_or1 (pt_not (pt_val (pe_call (ok_is_within T) (hr.mono (by decide)) (by rfl) T.g_is_within T.F_is_within.kp T.b_is_within .nil pass0 (pa_cons (HC.pe_fldK (K := K) (pv 1)) (pa_cons pe_int (pa_cons (pv 2) pa_nil))))))))) (pss_one (ps_ret pe_bl)) pss_nil)
      (pss_cons (ps_set (i := 4) sc_shows_power_of_row.nd rfl (by first | exact .inl rfl | exact .inr rfl) (pe_call (ok_step_power T) (hr.mono (by decide)) (by rfl) T.g_step_power T.F_step_power.kp T.b_step_power .nil pass0 (pa_cons (pv 0) pa_nil)))
      (pss_cons (ps_if (PW.pt (pw_or (pt_cmpR (op_eqK (K := K) hr.units) (HC.pe_fldK (K := K) (pv 1)) pe_int (nomark _)) (pw_or1 (pt_val (pe_callB (call_isiK' (K := K)) (by rfl) T.z_isinstance (by decide +kernel) (pa_cons (pv 4) (pa_cons (pe_glob (v := .ref T.C_Between) (by rfl) T.g_Between rfl) pa_nil))))))) (pss_one (ps_ret (pe_and (pe_cmpR (op_eqK (K := K) hr.units) (HC.pe_fldK (K := K) (pv 1)) pe_int (nomark _)) (pe_one (pe_callB (call_isiK' (K := K)) (by rfl) T.z_isinstance (by decide +kernel) (pa_cons (pv 4) (pa_cons (pe_glob (v := .ref T.C_Between) (by rfl) T.g_Between rfl) pa_nil))))))) pss_nil)
      (pss_cons (ps_if (pt_not (pt_val (pe_callB (cr_allK (K := K) (by rfl)) (by rfl) T.z_all (by decide +kernel) (pa_cons (pe_lc (own := [("step", 3)]) (g := gName 3) (tt := tYes) (by rfl) sc_shows_power_of_row.nd (pi_range1 (by rfl) T.z_range (pa_cons (HC.pe_fldK (K := K) (pv 1)) pa_nil)) (blkOk_by (own := [("step", 3)]) (N := n_shows_power_of_row) (sc := defScope s_shows_power_of_row) (by decide +kernel)) (fun _ _ _ _ _ => (pg_name (i := 3) sc_shows_power_of_row.nd rfl (by first | exact .inl rfl | exact .inr rfl))) (fun _ _ _ _ _ => pts_nil) (fun _ _ _ _ _ => (pe_call (ok_is_step_by T) (hr.mono (by decide)) (by rfl) T.g_is_step_by T.F_is_step_by.kp T.b_is_step_by .nil pass0 (pa_cons (pv 0) (pa_cons (pv 3) (pa_cons (HC.pe_fldK (K := K) (pv 4)) pa_nil)))))) pa_nil)))) (pss_one (ps_ret pe_bl)) pss_nil)
      (pss_one (ps_ret (pe_not (pe_call (ok_is_step_by T) (hr.mono (by decide)) (by rfl) T.g_is_step_by T.F_is_step_by.kp T.b_is_step_by .nil pass0 (pa_cons (pv 0) (pa_cons (HC.pe_fldK (K := K) (pv 1)) (pa_cons (HC.pe_fldK (K := K) (pv 4)) pa_nil)))))))))))))), HD.enter (ρ := [HD.S.v (sq b xs : HD.D), HD.S.v (v : HD.D), HD.S.un, HD.S.un, HD.S.un]) hc rfl ?_⟩
  clear hc

  have hb := res_bd h
  have hlen : (HD.I.v (sq b xs)).seq = some (xs.map HD.D.int) := by cases b <;> rfl
  obtain ⟨hl1, hl2⟩ := h.len
  fail "dr"
  refine HD.len_ hlen ?_
  rw [List.length_map]
  cases hv with
  | @byp fs d e1 e2 =>
    fail "dr"
    refine ⟨d, some (-80), some 80, rfl, e2, ?_⟩
    fail "dr"
    cases hw : isWi d (some (-80)) (some 80) with
    | false =>
      rw [hw, Bool.false_and] at q
      fail "dr"
      exact q
    | true =>
      rw [hw, Bool.true_and] at q
      cases d <;> first | (simp [isWi] at hw; done) | skip
      rename_i p
      simp only [isWi, Bool.and_eq_true, decide_eq_true_eq] at hw
      fail "dr"
      refine HD.CpD.mapD (fun d => match d with | .int i => .bl (stepB xs i.toNat p) | d => d) (by rw [HD.rngD_len]; omega) (fun d hd ys => ?_) ?_
      · obtain ⟨j, hj, e⟩ := List.getElem_of_mem hd
        obtain ⟨hj2, rfl⟩ := HD.rngD_at (List.getElem?_eq_some_iff.mpr ⟨hj, e⟩)
        rw [Int.zero_add]
        fail "dr"
        exact ⟨rfl, rfl, rfl⟩
      · rw [steps_map]
        fail "dr"
        refine HD.all_ (it := .o (.lst (((List.range ((xs.length : Int) - 3 + 1).toNat).map fun i => stepB xs i p).map HD.D.bl))) (bs := (List.range ((xs.length : Int) - 3 + 1).toNat).map fun i => stepB xs i p) rfl ?_
        rw [show ((List.range ((xs.length : Int) - 3 + 1).toNat).map fun i => stepB xs i p).all id = allB xs p ((xs.length : Int) - 3 + 1).toNat from by unfold allB; rw [List.all_map]; rfl]
        rw [show ((xs.length : Int) - 3 + 1).toNat = xs.length - 2 by omega]
        exact q
  | @une fs d e1 e2 =>
    fail "dr"
    refine ⟨d, some 0, some ((xs.length : Int) - 3), rfl, e2, ?_⟩
    fail "dr"
    cases hw : isWi d (some 0) (some ((xs.length : Int) - 3)) with
    | false =>
      rw [hw, Bool.false_and] at q
      fail "dr"
      exact q
    | true =>
      rw [hw, Bool.true_and] at q
      cases d <;> first | (simp [isWi] at hw; done) | skip
      rename_i v
      simp only [isWi, Bool.and_eq_true, decide_eq_true_eq] at hw
      simp only [unR] at q
      fail "dr"
      refine use_step_power h ?_
      fail "dr"
      cases e : (resR xs).1 with
      | false =>
        have er : resP T (resR xs) = .ins T.C_Between [("word", .str "between"), ("parts", .tup [.int (resR xs).2]), ("low", .int (resR xs).2)] := by unfold resP; rw [e]; rfl
        rw [er]
        rw [e] at q
        refine HX.ited_ (fun h0 => ?_) (fun h0 => ?_)
        · rw [if_pos h0] at q
          fail "dr"
          exact q
        · rw [if_neg h0, Bool.false_and] at q
          fail "dr"
          exact q
      | true =>
        obtain ⟨hb1, hb2⟩ := hb e
        have er : resP T (resR xs) = .ins T.C_ByPower [("word", .str "bypower"), ("parts", .tup [.int (resR xs).2]), ("power", .int (resR xs).2)] := by unfold resP; rw [e]; rfl
        rw [er]
        rw [e] at q
        generalize (resR xs).2 = p at *
        refine HX.ited_ (fun h0 => ?_) (fun h0 => ?_)
        · rw [if_pos h0] at q
          fail "dr"
          exact q
        rw [if_neg h0, Bool.true_and] at q
        fail "dr"
        refine HD.CpD.mapD (fun d => match d with | .int i => .bl (stepB xs i.toNat p) | d => d) (by rw [HD.rngD_len]; omega) (fun d hd ys => ?_) ?_
        · obtain ⟨j, hj, e⟩ := List.getElem_of_mem hd
          obtain ⟨hj2, rfl⟩ := HD.rngD_at (List.getElem?_eq_some_iff.mpr ⟨hj, e⟩)
          rw [Int.zero_add]
          fail "dr"
          exact ⟨rfl, rfl, rfl⟩
        · rw [steps_map]
          fail "dr"
          refine HD.all_ (it := .o (.lst (((List.range v.toNat).map fun i => stepB xs i p).map HD.D.bl))) (bs := (List.range v.toNat).map fun i => stepB xs i p) rfl ?_
          rw [show ((List.range v.toNat).map fun i => stepB xs i p).all id = allB xs p v.toNat from by unfold allB; rw [List.all_map]; rfl]
          cases ea : allB xs p v.toNat with
          | false =>
            rw [ea, Bool.false_and] at q
            fail "dr"
            exact q
          | true =>
            rw [ea, Bool.true_and] at q
            obtain ⟨k, rfl⟩ := Int.eq_ofNat_of_zero_le hw.1
            fail "dr"
            exact q
  | built e =>
    cases v <;> first | (simp [HD.D.tn] at e; done) | skip
    all_goals
      fail "dr"
      exact q
  | btw =>
    fail "dr"
    exact q
  | pap =>
    fail "dr"
    exact q
  | den =>
    fail "dr"
    exact q
theorem use_shows {T : Tx P K mg} {b : Bool} {xs : List Int} {v : HD.D} {r : Bool} {n : Nat} {Q : HD.I → Nat → Prop} {E : HD.XD} (h : Row xs) (hv : Shown T xs v r) (q : Q (.v (.bl r)) n) : spd_shows_power_of_row T [sq b xs, v] n Q E := ⟨b, xs, v, r, rfl, h, hv, q⟩
local macro_rules | `(tactic| fail "uO") => `(tactic| ((with_reducible refine HD.iC_ ?c ?_); (case c => (refine CM ?_ ?_ <;> assumption))))
noncomputable def nxtD (x y p : Int) : HD.D := match nxt x y p with
  | some z => .int z
  | none => .non
def spd__law_behind (ds : List HD.D) (n : Nat) (Q : HD.I → Nat → Prop) (_ : HD.XD) : Prop := ∃ (x y p : Int), ds = [.int x, .int y, .int p] ∧ ((1 ≤ x ∧ x ≤ 913517247483640899) ∧ (1 ≤ y ∧ y ≤ 90438207500880449001) ∧ (-80 ≤ p ∧ p ≤ 80)) ∧ Q (.v (nxtD x y p)) n
theorem use__law_behind {x y p : Int} {n : Nat} {Q : HD.I → Nat → Prop} {E : HD.XD} (h : (1 ≤ x ∧ x ≤ 913517247483640899) ∧ (1 ≤ y ∧ y ≤ 90438207500880449001) ∧ (-80 ≤ p ∧ p ≤ 80)) (q : Q (.v (nxtD x y p)) n) : spd__law_behind [.int x, .int y, .int p] n Q E := ⟨x, y, p, rfl, h, q⟩
theorem ok__law_behind (T : Tx P K mg) : FnOk P w K mg base CX0 3 T.f__law_behind T.fd__law_behind ["one", "other", "power"] (HD.lift K spd__law_behind) := by
  refine T.F__law_behind.ok sc__law_behind (fun vs H Q E h => ?_) (fun cdv A outer s H vs Q E hr h => ?_)
  · obtain ⟨cx, nn, args, Qd, Ed, hc, hsp⟩ := h
    obtain ⟨x, y, p, rfl, h, q⟩ := hsp
    exact hc.ra.len
  obtain ⟨cx, nn, args, Qd, Ed, hc, hsp⟩ := h
  obtain ⟨x, y, p, rfl, h, q⟩ := hsp
  refine ⟨_, (pss_cons (ps_asg (pe_call (ok__law_wanted T) (hr.mono (by decide)) (by rfl) T.g__law_wanted T.F__law_wanted.kp T.b__law_wanted .nil pass0 (pa_cons (pv 0) (pa_cons (pv 1) (pa_cons (pv 1) (pa_cons (pv 2) pa_nil))))) (pg_tupK (K := K) 3 (by rfl) (pgs_cons (pg_name (i := 3) sc__law_behind.nd rfl (by first | exact .inl rfl | exact .inr rfl)) (pgs_cons (pg_name (i := 4) sc__law_behind.nd rfl (by first | exact .inl rfl | exact .inr rfl)) (pgs_cons (pg_name (i := 5) sc__law_behind.nd rfl (by first | exact .inl rfl | exact .inr rfl)) pgs_nil)))))
      (pss_cons (ps_par (i := 6) (j := 7) (by rfl) sc__law_behind.nd rfl rfl (by decide) rfl rfl (pa_cons pe_int (pa_cons (pe_op (op_addK (K := K)) (pe_op (op_addK (K := K)) (pe_op op_mulU (pe_op op_mulU (pv 0) (pv 1)) (pv 1)) (pe_op op_mulU pe_int (pv 1))) pe_int) pa_nil)) (by rfl))
      (pss_cons (ps_if (PW.pt (pw_or (pt_cmpR op_le (pv 3) pe_int (nomark _)) (pw_or1 (pt_cmpR op_le (pv 4) pe_int (nomark _))))) (pss_one (ps_ret pe_non)) pss_nil)
      (pss_cons (ps_for PassesOwn.never (by rfl) (pi_range1 (by rfl) T.z_range (pa_cons pe_int pa_nil)) (pg_name (i := 8) sc__law_behind.nd rfl (by first | exact .inl rfl | exact .inr rfl)) (pss_cons (ps_if (pt_cmpR op_lt (pe_op op_sub (pv 7) (pv 6)) pe_int (nomark _)) (pss_one ps_break) pss_nil)
      (pss_cons (ps_set (i := 9) sc__law_behind.nd rfl (by first | exact .inl rfl | exact .inr rfl) (pe_op op_fdivU (pe_op (op_addK (K := K)) (pv 6) (pv 7)) pe_int))
      (pss_one (ps_asg (pe_ifExp (pt_cmpR op_le (pe_op op_mulU (pv 4) (pe_call (ok__law_raised T) (hr.mono (by decide)) (by rfl) T.g__law_raised T.F__law_raised.kp T.b__law_raised .nil pass0 (pa_cons (pv 9) (pa_cons (pv 5) pa_nil)))) (pv 3) (nomark _)) (pe_tup (pa_cons (pv 9) (pa_cons (pv 7) pa_nil))) (pe_tup (pa_cons (pv 6) (pa_cons (pv 9) pa_nil)))) (pg_tupK (K := K) 2 (by rfl) (pgs_cons (pg_name (i := 6) sc__law_behind.nd rfl (by first | exact .inl rfl | exact .inr rfl)) (pgs_cons (pg_name (i := 7) sc__law_behind.nd rfl (by first | exact .inl rfl | exact .inr rfl)) pgs_nil))))))))
      (pss_one (ps_ret (pe_ifExp (PW.pt (pw_and (pt_cmpR op_gt (pv 6) pe_int (nomark _)) (pw_and1 (pt_cmpR (op_eqK (K := K) hr.units) (pe_op op_mulU (pv 4) (pe_call (ok__law_raised T) (hr.mono (by decide)) (by rfl) T.g__law_raised T.F__law_raised.kp T.b__law_raised .nil pass0 (pa_cons (pv 6) (pa_cons (pv 5) pa_nil)))) (pv 3) (nomark _))))) (pv 6) pe_non))))))), HD.enter (ρ := [HD.S.v (.int x : HD.D), HD.S.v (.int y : HD.D), HD.S.v (.int p : HD.D), HD.S.un, HD.S.un, HD.S.un, HD.S.un, HD.S.un, HD.S.un, HD.S.un]) hc rfl ?_⟩
  clear hc

  obtain ⟨hx, hy, hp⟩ := h
  have o : Ok3 x y y := ⟨by omega, by omega, by omega⟩
  obtain ⟨_, s2, _, s4, _, s6, s7⟩ := o.sm
  have s1 := (nm_sm o.a).mono (show 80 ≤ 400 by omega)
  have hs2 : Sm 400 2 := (Sm.of (m := 64) (by constructor <;> omega)).mono (by omega)
  have k := WR_ok o hp
  have hrt := WR_rt o hp
  have hxy : 1 ≤ x * y * y ∧ x * y * y + 2 * y + 2 ≤ 2 ^ 200 := by
    have e1 : x * y ≤ 913517247483640899 * 90438207500880449001 := Int.mul_le_mul hx.2 hy.2 (by omega) (by omega)
    have e0 : 1 ≤ x * y := by have := Int.mul_le_mul hx.1 hy.1 (by omega) (by omega); omega
    have e2 : x * y * y ≤ 913517247483640899 * 90438207500880449001 * 90438207500880449001 := Int.mul_le_mul e1 hy.2 (by omega) (by omega)
    have e3 : 1 ≤ x * y * y := by have := Int.mul_le_mul e0 hy.1 (by omega) (by omega); omega
    omega
  fail "dr"
  unfold nxtD nxt at q
  generalize WR x y y p = w at k hrt q ⊢
  obtain ⟨hm, hl, hh⟩ := k
  fail "dr"
  refine HX.ited_ (fun h5 => ?_) (fun h5 => ?_)
  · rw [if_pos (.inl h5)] at q
    fail "dr"
    exact q
  fail "dr"
  refine HX.ited_ (fun h6 => ?_) (fun h6 => ?_)
  · rw [if_pos (.inr h6)] at q
    fail "dr"
    exact q
  rw [if_neg (by omega)] at q
  obtain ⟨rt1, rt2⟩ := hrt (by omega)
  fail "dr"
  have hkn : w.many.toNat ≠ 0 := by omega
  refine HU.endBy (fun ρ n => n = nn ∧ ∃ y1 y2 y3, ρ = [.v (.int x), .v (.int y), .v (.int p), .v (.int w.rest), .v (.int w.part), .v (.int w.many), .v (.int w.rt), y1, y2, y3]) ?_ ?_
  · refine HD.ForD.inv (fun i ρ n => n = nn ∧ ∃ lo hi y2 y3, ρ = [.v (.int x), .v (.int y), .v (.int p), .v (.int w.rest), .v (.int w.part), .v (.int w.many), .v (.int lo), .v (.int hi), y2, y3] ∧ (0 ≤ lo ∧ lo < hi ∧ hi ≤ 2 ^ 200 ∧ hi - lo ≤ 2 ^ (200 - i)) ∧ w.part * lo ^ w.many.toNat ≤ w.rest ∧ w.rest < w.part * hi ^ w.many.toNat) ⟨rfl, 0, _, _, _, rfl, ⟨by omega, by omega, by omega, by show _ ≤ (2 : Int) ^ 200; omega⟩, by rw [Int.zero_pow hkn]; omega, ?_⟩ (fun i d ρ n hd hi hP => ?_) (fun ρ n hP => ?_)
    · have := hh (by omega)
      have e := ipow_le (x := x * y * y + y + y + 1) (y := x * y * y + 2 * y + 2) (by omega) (by omega) w.many.toNat
      have e2 := Int.mul_le_mul_of_nonneg_left e (show 0 ≤ w.part by omega)
      omega
    · obtain ⟨rfl, lo, hi', y2, y3, rfl, hb, hl', hu⟩ := hP
      obtain ⟨hi2, rfl⟩ := HD.rngD_at hd
      have hi3 : i < 200 := hi2
      fail "dr"
      refine HX.ited_ (fun h => ?_) (fun h => ?_)
      · have er : w.rt = lo := Rt.eq (by omega) ⟨hb.1, hl', by rw [show lo + 1 = hi' by omega]; exact hu⟩
        rw [er]
        fail "dr"
        exact ⟨rfl, _, _, _, rfl⟩
      · have hp2 : (2 : Int) ^ (200 - i) = 2 * 2 ^ (200 - (i + 1)) := by rw [show 200 - i = (200 - (i + 1)) + 1 by omega, Int.pow_succ]; omega
        rw [hp2] at hb
        have hs : Sm 400 ((lo + hi') / 2) := (Sm.of (m := 201) ⟨by omega, by omega⟩).mono (by omega)
        fail "dr"
        refine HD.iC_ (mulP hl hs (by omega)) ?_
        fail "dr"
        refine HX.ited_ (fun h2 => ?_) (fun h2 => ?_)
        · fail "dr"
          exact ⟨rfl, _, _, _, _, rfl, ⟨by omega, by omega, by omega, by omega⟩, by omega, by omega⟩
        · fail "dr"
          exact ⟨rfl, _, _, _, _, rfl, ⟨by omega, by omega, by omega, by omega⟩, by omega, by omega⟩
    · obtain ⟨rfl, lo, hi', y2, y3, rfl, hb, hl', hu⟩ := hP
      have e : (HD.rngD 0 (Int.toNat 200)).length = 200 := HD.rngD_len
      rw [e, show (200 - 200) = 0 from rfl, Int.pow_zero] at hb
      have er : w.rt = lo := Rt.eq (by omega) ⟨hb.1, hl', by rw [show lo + 1 = hi' by omega]; exact hu⟩
      rw [er]
      exact ⟨rfl, _, _, _, rfl⟩
  · rintro ρ n ⟨rfl, y1, y2, y3, rfl⟩
    have r0 := rt1.r0
    have hs : Sm 400 w.rt := by
      exact (Sm.of (m := 201) ⟨by omega, by omega⟩).mono (by omega)
    fail "dr"
    refine HX.ited_ (fun h7 => ?_) (fun h7 => ?_)
    · fail "dr"
      refine HD.iC_ (mulP hl hs (by omega)) ?_
      fail "dr"
      refine HX.ited_ (fun h8 => ?_) (fun h8 => ?_)
      · rw [if_pos h8] at q
        fail "dr"
        exact q
      · rw [if_neg h8] at q
        fail "dr"
        exact q
    · have e : w.rt = 0 := by omega
      rw [if_neg (by rw [e, Int.zero_pow hkn]; omega)] at q
      fail "dr"
      exact q
local macro_rules | `(tactic| fail "du") => `(tactic| ((with_reducible refine' use__law_behind ?h ?_); (case h => refine ⟨?_, ?_, ?_⟩ <;> first | assumption | (constructor <;> omega))))
local macro_rules | `(tactic| fail "uO") => `(tactic| ((with_reducible refine HD.iC_ ?c ?_); (case c => (refine CM ?_ ?_ <;> assumption))))
def Begun (n k : Nat) (Q : HD.I → Nat → Prop) : Prop := ∀ (x y p : Int) (m : Nat), (1 ≤ x ∧ x ≤ 99) → (1 ≤ y ∧ y ≤ 99) → (-80 ≤ p ∧ p ≤ 80) → m ≤ n + k → Q (.v (.tup [.int x, .int y, .int p])) m
def spd__law_begun (ds : List HD.D) (n : Nat) (Q : HD.I → Nat → Prop) (_ : HD.XD) : Prop := ds = [.hat] ∧ n ≤ 90000 ∧ Begun n 10 Q
theorem ok__law_begun (T : Tx P K mg) : FnOk P w K mg base CX0 3 T.f__law_begun T.fd__law_begun ["hat"] (HD.lift K spd__law_begun) := by
  refine T.F__law_begun.ok sc__law_begun (fun vs H Q E h => ?_) (fun cdv A outer s H vs Q E hr h => ?_)
  · obtain ⟨cx, nn, args, Qd, Ed, hc, hsp⟩ := h
    obtain ⟨rfl, hn, q⟩ := hsp
    exact hc.ra.len
  obtain ⟨cx, nn, args, Qd, Ed, hc, hsp⟩ := h
  obtain ⟨rfl, hn, q⟩ := hsp
  refine ⟨_, (pss_cons (ps_asg (pe_tup (pa_cons (pe_call (ok__law_lot T) (hr.mono (by decide)) (by rfl) T.g__law_lot T.F__law_lot.kp T.b__law_lot .nil pass0 (pa_cons (pv 0) (pa_cons pe_int pa_nil))) (pa_cons (pe_op (op_addK (K := K)) pe_int (pe_call (ok__law_lot T) (hr.mono (by decide)) (by rfl) T.g__law_lot T.F__law_lot.kp T.b__law_lot .nil pass0 (pa_cons (pv 0) (pa_cons pe_int pa_nil)))) (pa_cons (pe_op (op_addK (K := K)) pe_int (pe_call (ok__law_lot T) (hr.mono (by decide)) (by rfl) T.g__law_lot T.F__law_lot.kp T.b__law_lot .nil pass0 (pa_cons (pv 0) (pa_cons pe_int pa_nil)))) (pa_cons (pe_op (op_addK (K := K)) pe_int (pe_call (ok__law_lot T) (hr.mono (by decide)) (by rfl) T.g__law_lot T.F__law_lot.kp T.b__law_lot .nil pass0 (pa_cons (pv 0) (pa_cons pe_int pa_nil)))) pa_nil))))) (pg_tupK (K := K) 4 (by rfl) (pgs_cons (pg_name (i := 1) sc__law_begun.nd rfl (by first | exact .inl rfl | exact .inr rfl)) (pgs_cons (pg_name (i := 2) sc__law_begun.nd rfl (by first | exact .inl rfl | exact .inr rfl)) (pgs_cons (pg_name (i := 3) sc__law_begun.nd rfl (by first | exact .inl rfl | exact .inr rfl)) (pgs_cons (pg_name (i := 4) sc__law_begun.nd rfl (by first | exact .inl rfl | exact .inr rfl)) pgs_nil))))))
      (pss_cons (ps_if (pt_cmpR (op_eqK (K := K) hr.units) (pv 1) pe_int (nomark _)) (pss_one (ps_ret (pe_tup (pa_cons (pv 2) (pa_cons (pe_op (op_addK (K := K)) (pv 2) (pv 3)) (pa_cons pe_int pa_nil)))))) pss_nil)
      (pss_cons (ps_if (pt_cmpR (op_eqK (K := K) hr.units) (pv 1) pe_int (nomark _)) (pss_one (ps_ret (pe_tup (pa_cons (pv 2) (pa_cons (pe_ifExp (pt_cmpR op_lt (pe_op op_mulU (pv 2) (pe_op (op_addK (K := K)) pe_int (pv 4))) pe_int (nomark _)) (pe_op op_mulU (pv 2) (pe_op (op_addK (K := K)) pe_int (pv 4))) (pe_op (op_addK (K := K)) (pv 2) pe_int)) (pa_cons pe_int pa_nil)))))) pss_nil)
      (pss_cons (ps_if (pt_cmpR (op_eqK (K := K) hr.units) (pv 1) pe_int (nomark _)) (pss_cons (ps_set (i := 5) sc__law_begun.nd rfl (by first | exact .inl rfl | exact .inr rfl) (pe_op (op_addK (K := K)) pe_int (pe_op op_modU (pe_callTy call_intU (by rfl) T.z_int (by decide +kernel) (pa_cons (pv 3) pa_nil)) pe_int)))
      (pss_one (ps_ret (pe_tup (pa_cons (pe_op op_mulU (pe_op op_mulU (pv 4) (pv 5)) (pv 5)) (pa_cons (pe_op op_mulU (pe_op op_mulU (pv 4) (pv 5)) (pe_op (op_addK (K := K)) (pv 5) pe_int)) (pa_cons pe_int pa_nil))))))) pss_nil)
      (pss_cons (ps_if (pt_cmpR (op_eqK (K := K) hr.units) (pv 1) pe_int (nomark _)) (pss_cons (ps_asg (pe_call (ok__law_one T) (hr.mono (by decide)) (by rfl) T.g__law_one T.F__law_one.kp T.b__law_one .nil pass0 (pa_cons (pv 0) (pa_cons (pe_lst (pa_cons (pe_tup (pa_cons pe_int (pa_cons pe_int pa_nil))) (pa_cons (pe_tup (pa_cons pe_int (pa_cons pe_int pa_nil))) (pa_cons (pe_tup (pa_cons pe_int (pa_cons pe_int pa_nil))) (pa_cons (pe_tup (pa_cons pe_int (pa_cons pe_int pa_nil))) (pa_cons (pe_tup (pa_cons pe_int (pa_cons pe_int pa_nil))) (pa_cons (pe_tup (pa_cons pe_int (pa_cons pe_int pa_nil))) pa_nil))))))) pa_nil))) (pg_tupK (K := K) 2 (by rfl) (pgs_cons (pg_name (i := 2) sc__law_begun.nd rfl (by first | exact .inl rfl | exact .inr rfl)) (pgs_cons (pg_name (i := 6) sc__law_begun.nd rfl (by first | exact .inl rfl | exact .inr rfl)) pgs_nil))))
      (pss_cons (ps_set (i := 7) sc__law_begun.nd rfl (by first | exact .inl rfl | exact .inr rfl) (pe_ifExp (pt_cmpR op_lt (pe_op op_mulU (pe_callB (call_maxU (by rfl)) (by rfl) T.z_max (by decide +kernel) (pa_cons (pv 2) (pa_cons (pv 6) pa_nil))) (pv 4)) pe_int (nomark _)) (pv 4) pe_int))
      (pss_one (ps_ret (pe_tup (pa_cons (pe_op op_mulU (pv 2) (pv 7)) (pa_cons (pe_op op_mulU (pv 6) (pv 7)) (pa_cons pe_int pa_nil)))))))) pss_nil)
      (pss_cons (ps_if (pt_cmpR (op_eqK (K := K) hr.units) (pv 1) pe_int (nomark _)) (pss_cons (ps_set (i := 8) sc__law_begun.nd rfl (by first | exact .inl rfl | exact .inr rfl) (pe_call (ok__law_one T) (hr.mono (by decide)) (by rfl) T.g__law_one T.F__law_one.kp T.b__law_one .nil pass0 (pa_cons (pv 0) (pa_cons (pe_lst (pa_cons pe_int (pa_cons pe_int (pa_cons pe_int (pa_cons pe_int (pa_cons pe_int (pa_cons pe_int pa_nil))))))) pa_nil))))
      (pss_one (ps_ret (pe_tup (pa_cons (pe_op op_fdivU (pv 8) (pe_op (op_addK (K := K)) pe_int (pv 4))) (pa_cons (pe_op op_fdivU (pv 8) (pe_op (op_addK (K := K)) pe_int (pv 4))) (pa_cons (pe_un un_neg pe_int) pa_nil))))))) pss_nil)
      (pss_cons (ps_if (pt_cmpR (op_eqK (K := K) hr.units) (pv 1) pe_int (nomark _)) (pss_one (ps_ret (pe_tup (pa_cons (pv 2) (pa_cons (pv 2) (pa_cons (pe_op op_sub (pe_call (ok__law_lot T) (hr.mono (by decide)) (by rfl) T.g__law_lot T.F__law_lot.kp T.b__law_lot .nil pass0 (pa_cons (pv 0) (pa_cons pe_int pa_nil))) pe_int) pa_nil)))))) pss_nil)
      (pss_one (ps_ret (pe_tup (pa_cons (pe_op (op_addK (K := K)) pe_int (pe_call (ok__law_lot T) (hr.mono (by decide)) (by rfl) T.g__law_lot T.F__law_lot.kp T.b__law_lot .nil pass0 (pa_cons (pv 0) (pa_cons pe_int pa_nil)))) (pa_cons (pe_op (op_addK (K := K)) pe_int (pe_call (ok__law_lot T) (hr.mono (by decide)) (by rfl) T.g__law_lot T.F__law_lot.kp T.b__law_lot .nil pass0 (pa_cons (pv 0) (pa_cons pe_int pa_nil)))) (pa_cons (pe_call (ok__law_one T) (hr.mono (by decide)) (by rfl) T.g__law_one T.F__law_one.kp T.b__law_one .nil pass0 (pa_cons (pv 0) (pa_cons (pe_lst (pa_cons (pe_op op_sub (pe_call (ok__law_lot T) (hr.mono (by decide)) (by rfl) T.g__law_lot T.F__law_lot.kp T.b__law_lot .nil pass0 (pa_cons (pv 0) (pa_cons pe_int pa_nil))) pe_int) (pa_cons (pe_op op_sub (pe_call (ok__law_lot T) (hr.mono (by decide)) (by rfl) T.g__law_lot T.F__law_lot.kp T.b__law_lot .nil pass0 (pa_cons (pv 0) (pa_cons pe_int pa_nil))) pe_int) pa_nil))) pa_nil))) pa_nil))))))))))))), HD.enter (ρ := [HD.S.v (.hat : HD.D), HD.S.un, HD.S.un, HD.S.un, HD.S.un, HD.S.un, HD.S.un, HD.S.un, HD.S.un]) hc rfl ?_⟩
  clear hc

  fail "dr"
  intro way w0 w1
  fail "dr"
  intro one o0 o1
  fail "dr"
  intro more m0 m1
  fail "dr"
  intro times t0 t1
  fail "dr"
  refine HX.ited_ (fun h => ?_) (fun h => ?_)
  · fail "dr"
    exact q _ _ _ _ (by omega) (by omega) (by omega) (by omega)
  clear h
  have b1 : 0 ≤ one * times ∧ one * times ≤ 19 * 3 := ⟨Int.mul_nonneg o0 t0, Int.mul_le_mul (by omega) (by omega) t0 (by omega)⟩
  fail "dr"
  refine HX.ited_ (fun h => ?_) (fun h => ?_)
  · have e1 : (1 + one) * (1 + (1 + times)) = 2 + one * 2 + times + one * times := by simp only [Int.add_mul, Int.mul_add, Int.one_mul, Int.mul_one]; omega
    fail "dr"
    refine HX.ited_ (fun h2 => ?_) (fun h2 => ?_)
    · fail "dr"
      exact q _ _ _ _ (by omega) (by omega) (by omega) (by omega)
    · fail "dr"
      exact q _ _ _ _ (by omega) (by omega) (by omega) (by omega)
  clear h
  fail "dr"
  refine HX.ited_ (fun h => ?_) (fun h => ?_)
  · fail "dr"
    intro b hb b0 b1
    have c1 : 1 ≤ (1 + times) * (1 + b) ∧ (1 + times) * (1 + b) ≤ 4 * 4 := ⟨by have := Int.mul_le_mul (show 1 ≤ 1 + times by omega) (show 1 ≤ 1 + b by omega) (by omega) (by omega); omega, Int.mul_le_mul (by omega) (by omega) (by omega) (by omega)⟩
    have c2 : 1 ≤ (1 + times) * (1 + b) * (1 + b) ∧ (1 + times) * (1 + b) * (1 + b) ≤ 16 * 4 := ⟨by have := Int.mul_le_mul c1.1 (show 1 ≤ 1 + b by omega) (by omega) (by omega); omega, Int.mul_le_mul (by omega) (by omega) (by omega) (by omega)⟩
    have c3 : 1 ≤ (1 + times) * (1 + b) * (1 + b + 1) ∧ (1 + times) * (1 + b) * (1 + b + 1) ≤ 16 * 5 := ⟨by have := Int.mul_le_mul c1.1 (show 1 ≤ 1 + b + 1 by omega) (by omega) (by omega); omega, Int.mul_le_mul (by omega) (by omega) (by omega) (by omega)⟩
    fail "dr"
    exact q _ _ _ _ (by omega) (by omega) (by omega) (by omega)
  clear h
  fail "dr"
  refine HX.ited_ (fun h => ?_) (fun h => ?_)
  · fail "dr"
    refine HD.use_one rfl (by omega) ⟨by show 0 < 6; omega, by show 6 ≤ 1000; omega⟩ fun v hv => ?_
    obtain ⟨u, v', rfl, hu⟩ : ∃ u v' : Int, v = .tup [.int u, .int v'] ∧ (1 ≤ u ∧ u ≤ 25 ∧ 1 ≤ v' ∧ v' ≤ 25) := by
      simp only [List.mem_cons, List.mem_nil_iff, or_false] at hv
      rcases hv with rfl | rfl | rfl | rfl | rfl | rfl <;> exact ⟨_, _, rfl, by omega⟩
    clear hv
    have hM : ∃ M : Int, (if v' > u then v' else u) = M ∧ u ≤ M ∧ v' ≤ M := ⟨_, rfl, by split <;> omega, by split <;> omega⟩
    obtain ⟨M, eM, uM, vM⟩ := hM
    have k1 : u * (1 + times) ≤ M * (1 + times) := Int.mul_le_mul_of_nonneg_right uM (by omega)
    have k2 : v' * (1 + times) ≤ M * (1 + times) := Int.mul_le_mul_of_nonneg_right vM (by omega)
    have k3 : 1 ≤ u * (1 + times) := by have := Int.mul_le_mul hu.1 (show 1 ≤ 1 + times by omega) (by omega) (by omega); omega
    have k4 : 1 ≤ v' * (1 + times) := by have := Int.mul_le_mul hu.2.2.1 (show 1 ≤ 1 + times by omega) (by omega) (by omega); omega
    fail "dr"
    rw [eM]
    refine HX.ited_ (fun h2 => ?_) (fun h2 => ?_)
    · fail "dr"
      exact q _ _ _ _ (by omega) (by omega) (by omega) (by omega)
    · fail "dr"
      exact q _ _ _ _ (by omega) (by omega) (by omega) (by omega)
  clear h
  fail "dr"
  refine HX.ited_ (fun h => ?_) (fun h => ?_)
  · fail "dr"
    refine HD.use_one rfl (by omega) ⟨by show 0 < 6; omega, by show 6 ≤ 1000; omega⟩ fun v hv => ?_
    obtain ⟨z, rfl, z0, z1⟩ : ∃ z : Int, v = .int z ∧ 48 ≤ z ∧ z ≤ 96 := by
      simp only [List.mem_cons, List.mem_nil_iff, or_false] at hv
      rcases hv with rfl | rfl | rfl | rfl | rfl | rfl <;> exact ⟨_, rfl, by omega, by omega⟩
    clear hv
    have k1 : ∀ d : Int, 1 ≤ d → d ≤ 10 → 1 ≤ z / d ∧ z / d ≤ 99 := fun d h1 h2 => ⟨Int.le_ediv_of_mul_le (by omega) (by omega), Int.le_trans (Int.ediv_le_self d (by omega)) (by omega)⟩
    have k2 := k1 (2 + (1 + times)) (by omega) (by omega)
    have k3 := k1 (1 + (1 + times)) (by omega) (by omega)
    clear k1
    fail "dr"
    exact q _ _ _ _ k2 k3 (by omega) (by omega)
  clear h
  fail "dr"
  refine HX.ited_ (fun h => ?_) (fun h => ?_)
  · fail "dr"
    intro p p0 p1
    fail "dr"
    exact q _ _ _ _ (by omega) (by omega) (by omega) (by omega)
  fail "dr"
  intro x x0 x1
  fail "dr"
  intro y y0 y1
  fail "dr"
  intro u u0 u1
  fail "dr"
  intro v v0 v1
  fail "dr"
  refine HD.use_one rfl (by omega) ⟨by show 0 < 2; omega, by show 2 ≤ 1000; omega⟩ fun z hz => ?_
  obtain ⟨z, rfl, z0, z1⟩ : ∃ p : Int, z = .int p ∧ -80 ≤ p ∧ p ≤ 80 := by
    simp only [List.mem_cons, List.mem_nil_iff, or_false] at hz
    rcases hz with rfl | rfl <;> exact ⟨_, rfl, by omega, by omega⟩
  clear hz
  fail "dr"
  exact q _ _ _ _ (by omega) (by omega) (by omega) (by omega)
theorem use_begun {n : Nat} {Q : HD.I → Nat → Prop} {E : HD.XD} (hn : n ≤ 90000) (q : Begun n 10 Q) : spd__law_begun [.hat] n Q E := ⟨rfl, hn, q⟩
def spd__law_gone_on (ds : List HD.D) (n : Nat) (Q : HD.I → Nat → Prop) (_ : HD.XD) : Prop := ∃ (x y m p : Int), ds = [.int x, .int y, .int m, .int p] ∧ ((1 ≤ x ∧ x ≤ 99) ∧ (1 ≤ y ∧ y ≤ 99) ∧ (2 ≤ m ∧ m ≤ 12) ∧ (-80 ≤ p ∧ p ≤ 80)) ∧ Q (.o (.lst ((goneL x y m p).map HD.D.int))) n
theorem use__law_gone_on {x y m p : Int} {n : Nat} {Q : HD.I → Nat → Prop} {E : HD.XD} (h : (1 ≤ x ∧ x ≤ 99) ∧ (1 ≤ y ∧ y ≤ 99) ∧ (2 ≤ m ∧ m ≤ 12) ∧ (-80 ≤ p ∧ p ≤ 80)) (q : Q (.o (.lst ((goneL x y m p).map HD.D.int))) n) : spd__law_gone_on [.int x, .int y, .int m, .int p] n Q E := ⟨x, y, m, p, rfl, h, q⟩
theorem ok__law_gone_on (T : Tx P K mg) : FnOk P w K mg base CX0 4 T.f__law_gone_on T.fd__law_gone_on ["first", "second", "many", "power"] (HD.lift K spd__law_gone_on) := by
  refine T.F__law_gone_on.ok sc__law_gone_on (fun vs H Q E h => ?_) (fun cdv A outer s H vs Q E hr h => ?_)
  · obtain ⟨cx, nn, args, Qd, Ed, hc, hsp⟩ := h
    obtain ⟨x, y, m, p, rfl, h, q⟩ := hsp
    exact hc.ra.len
  obtain ⟨cx, nn, args, Qd, Ed, hc, hsp⟩ := h
  obtain ⟨x, y, m, p, rfl, h, q⟩ := hsp
  refine ⟨_, (pss_cons (ps_set (i := 4) sc__law_gone_on.nd rfl (by first | exact .inl rfl | exact .inr rfl) (pe_lst (pa_cons (pv 0) (pa_cons (pv 1) pa_nil))))
      (pss_cons (ps_for PassesOwn.never (by rfl) (pi_range1 (by rfl) T.z_range (pa_cons (pe_op op_sub (pv 2) pe_int) pa_nil)) (pg_name (i := 5) sc__law_gone_on.nd rfl (by first | exact .inl rfl | exact .inr rfl)) (pss_cons (ps_set (i := 6) sc__law_gone_on.nd rfl (by first | exact .inl rfl | exact .inr rfl) (pe_call (ok__law_behind T) (hr.mono (by decide)) (by rfl) T.g__law_behind T.F__law_behind.kp T.b__law_behind .nil pass0 (pa_cons (pe_ix (ix_K (K := K)) (pv 4) (pe_un un_neg pe_int) (fun _ _ => rfl)) (pa_cons (pe_ix (ix_K (K := K)) (pv 4) (pe_un un_neg pe_int) (fun _ _ => rfl)) (pa_cons (pv 3) pa_nil)))))
      (pss_cons (ps_if (pt_cmpR op_isNU (pv 6) pe_non (nomark _)) (pss_one ps_break) pss_nil)
      (pss_one (ps_expr (HD.pe_bmK (K := K) PySem.F.plainAttrs_list PySem.F.slot_list_append PySem.F.type_list_append mt_append (pv 4) (pa_cons (pv 6) pa_nil)))))))
      (pss_one (ps_ret (pv 4))))), HD.enter (ρ := [HD.S.v (.int x : HD.D), HD.S.v (.int y : HD.D), HD.S.v (.int m : HD.D), HD.S.v (.int p : HD.D), HD.S.un, HD.S.un, HD.S.un]) hc rfl ?_⟩
  clear hc

  unfold goneL at q
  obtain ⟨hx, hy, hm, hp⟩ := h
  fail "dr"
  have hmn : (m - 2).toNat = m.toNat - 2 := by omega
  rw [hmn]
  refine HU.endBy (fun ρ n => n = nn ∧ ∃ y1 y2, ρ = [.v (.int x), .v (.int y), .v (.int m), .v (.int p), .ow (.lst ((x :: y :: gone p (m.toNat - 2) x y).map HD.D.int)), y1, y2]) ?_ ?_
  · refine HD.ForD.inv (fun i ρ n => n = nn ∧ ∃ (pre : List Int) (u v : Int) (y1 y2 : HD.S), ρ = [.v (.int x), .v (.int y), .v (.int m), .v (.int p), .ow (.lst ((pre ++ [u, v]).map HD.D.int)), y1, y2] ∧ pre.length = i ∧ Two x y p i u v ∧ pre ++ [u, v] ++ gone p (m.toNat - 2 - i) u v = x :: y :: gone p (m.toNat - 2) x y) ⟨rfl, [], x, y, .un, .un, rfl, rfl, Two.begin hx hy, rfl⟩ (fun i d ρ n hd hi hP => ?_) (fun ρ n hP => ?_)
    · obtain ⟨rfl, pre, u, v, y1, y2, rfl, hl, tw, ht⟩ := hP
      obtain ⟨hi2, rfl⟩ := HD.rngD_at hd
      obtain ⟨b1, b2⟩ := tw.bd hx hy (show i ≤ 9 by omega)
      have p1 := tw.px
      have p2 := tw.py
      fail "dr"
      refine HD.ix_ (xs := (pre ++ [u, v]).map HD.D.int) rfl at_m2 ?_
      fail "dr"
      refine HD.ix_ (xs := (pre ++ [u, v]).map HD.D.int) rfl at_m1 ?_
      fail "dr"
      rw [show m.toNat - 2 - i = (m.toNat - 2 - (i + 1)) + 1 by omega, gone] at ht
      unfold nxtD
      cases e : nxt u v p with
      | none =>
        rw [e] at ht
        simp only [List.append_nil] at ht
        fail "dr"
        exact ⟨rfl, _, _, by rw [show (pre ++ [u, v]).map HD.D.int = _ from congrArg (List.map HD.D.int) ht]; rfl⟩
      | some z =>
        rw [e] at ht
        fail "dr"
        refine HD.append_ rfl rfl (Nat.ble_eq_true_of_le (by rw [List.length_map, List.length_append, hl]; show i + 2 ≤ 100000; omega)) ?_
        fail "dr"
        refine ⟨rfl, pre ++ [u], v, z, .v (.int (0 + (i : Int))), .v (.int z), ?_, by rw [List.length_append, hl]; rfl, tw.next hx hy hp (by omega) e, by rw [← ht]; simp⟩
        rw [show pre ++ [u] ++ [v, z] = (pre ++ [u, v]) ++ [z] by simp, List.map_append (l₂ := [z])]
        rfl
    · obtain ⟨rfl, pre, u, v, y1, y2, rfl, hl, tw, ht⟩ := hP
      rw [HD.rngD_len, Nat.sub_self, gone, List.append_nil] at ht
      exact ⟨rfl, _, _, by rw [show (pre ++ [u, v]).map HD.D.int = _ from congrArg (List.map HD.D.int) ht]⟩
  · rintro ρ n ⟨rfl, y1, y2, rfl⟩
    fail "dr"
    exact q
local macro_rules | `(tactic| fail "du") => `(tactic| ((with_reducible refine' use__law_gone_on ?h ?_); (case h => refine ⟨?_, ?_, ?_, ?_⟩ <;> first | assumption | (constructor <;> omega))))
theorem Ok4.ok3 {a b c : Int} (o : Ok4 a b b c) : Ok3 a b b := by
  obtain ⟨h1, h2, h3, h4⟩ := o
  exact ⟨by omega, by omega, by omega⟩
def spd__law_is_by (ds : List HD.D) (n : Nat) (Q : HD.I → Nat → Prop) (_ : HD.XD) : Prop := ∃ (xs : List Int) (i : Nat) (p : Int), ds = [.lst (xs.map HD.D.int), .int i, .int p] ∧ (Row xs ∧ i + 3 ≤ xs.length ∧ (-80 ≤ p ∧ p ≤ 80)) ∧ Q (.v (.bl (stepB xs i p))) n
theorem use__law_is_by {xs : List Int} {i : Nat} {p : Int} {n : Nat} {Q : HD.I → Nat → Prop} {E : HD.XD} (h : Row xs ∧ i + 3 ≤ xs.length ∧ (-80 ≤ p ∧ p ≤ 80)) (q : Q (.v (.bl (stepB xs i p))) n) : spd__law_is_by [.lst (xs.map HD.D.int), .int i, .int p] n Q E := ⟨xs, i, p, rfl, h, q⟩
theorem ok__law_is_by (T : Tx P K mg) : FnOk P w K mg base CX0 3 T.f__law_is_by T.fd__law_is_by ["numbers", "step", "power"] (HD.lift K spd__law_is_by) := by
  refine T.F__law_is_by.ok sc__law_is_by (fun vs H Q E h => ?_) (fun cdv A outer s H vs Q E hr h => ?_)
  · obtain ⟨cx, nn, args, Qd, Ed, hc, hsp⟩ := h
    obtain ⟨xs, i, p, rfl, h, q⟩ := hsp
    exact hc.ra.len
  obtain ⟨cx, nn, args, Qd, Ed, hc, hsp⟩ := h
  obtain ⟨xs, i, p, rfl, h, q⟩ := hsp
  refine ⟨_, (pss_cons (ps_asg (pe_slice (sl_K (K := K)) (pv 0) (po_some (pv 1)) (po_some (pe_op (op_addK (K := K)) (pv 1) pe_int))) (HU.pg_seqK (K := K) 3 (by rfl) (pgs_cons (pg_name (i := 3) sc__law_is_by.nd rfl (by first | exact .inl rfl | exact .inr rfl)) (pgs_cons (pg_name (i := 4) sc__law_is_by.nd rfl (by first | exact .inl rfl | exact .inr rfl)) (pgs_cons (pg_name (i := 5) sc__law_is_by.nd rfl (by first | exact .inl rfl | exact .inr rfl)) pgs_nil)))))
      (pss_cons (ps_asg (pe_call (ok__law_wanted T) (hr.mono (by decide)) (by rfl) T.g__law_wanted T.F__law_wanted.kp T.b__law_wanted .nil pass0 (pa_cons (pv 3) (pa_cons (pv 4) (pa_cons (pv 4) (pa_cons (pv 2) pa_nil))))) (pg_tupK (K := K) 3 (by rfl) (pgs_cons (pg_name (i := 6) sc__law_is_by.nd rfl (by first | exact .inl rfl | exact .inr rfl)) (pgs_cons (pg_name (i := 7) sc__law_is_by.nd rfl (by first | exact .inl rfl | exact .inr rfl)) (pgs_cons (pg_name (i := 8) sc__law_is_by.nd rfl (by first | exact .inl rfl | exact .inr rfl)) pgs_nil)))))
      (pss_one (ps_ret (pe_cmpR (op_eqK (K := K) hr.units) (pe_op op_mulU (pv 7) (pe_call (ok__law_raised T) (hr.mono (by decide)) (by rfl) T.g__law_raised T.F__law_raised.kp T.b__law_raised .nil pass0 (pa_cons (pv 5) (pa_cons (pv 8) pa_nil)))) (pv 6) (nomark _)))))), HD.enter (ρ := [HD.S.v (.lst (xs.map HD.D.int) : HD.D), HD.S.v (.int i : HD.D), HD.S.v (.int p : HD.D), HD.S.un, HD.S.un, HD.S.un, HD.S.un, HD.S.un, HD.S.un]) hc rfl ?_⟩
  clear hc

  obtain ⟨hr', hi, hp⟩ := h
  obtain ⟨u, v, w, r, e, o⟩ := drop3 hr' hi
  have o3 := o.ok3
  have k := WR_ok o3 hp
  obtain ⟨o1, o2, _, o4⟩ := id o
  have hs : Sm 400 w := (Sm.of (m := 64) (by omega)).mono (by omega)
  unfold stepB at q
  rw [e] at q
  simp only at q
  rw [By_eq] at q
  have ec : HD.cutD (xs.map HD.D.int) (some (i : Int)) (some ((i : Int) + 3)) = [.int u, .int v, .int w] := by rw [cut3 hi, e]; rfl
  fail "dr"
  rw [ec]
  refine HU.gseqL_ (it := .o (.lst [.int u, .int v, .int w])) rfl rfl ?_
  fail "dr"
  generalize WR u v v p = z at k q ⊢
  obtain ⟨hm, hl, hh⟩ := k
  fail "dr"
  refine HD.iC_ (mulP hl hs (by omega)) ?_
  fail "dr"
  exact q
local macro_rules | `(tactic| fail "du") => `(tactic| ((with_reducible refine' use__law_is_by ?h ?_); (case h => first | assumption | (refine ⟨by assumption, ?_, ?_⟩ <;> first | assumption | omega))))
theorem left_eq {a b c p : Int} (hp : p ≠ 0) : (WR a b b p).part * c ^ (WR a b b p).many.toNat - (WR a b b p).rest = if p > 0 then S a b b c p else - S a b b c p := by
  unfold WR S
  rw [if_neg hp]
  by_cases h1 : p > 0
  · rw [if_pos h1, if_pos h1, if_neg (by omega)]
    show 1 * c ^ p.toNat - (b ^ p.toNat + b ^ p.toNat - a ^ p.toNat) = _
    rw [Int.one_mul]
    omega
  · rw [if_neg h1, if_neg h1, if_pos (by omega)]
    show ((a * b) ^ (-p).toNat + (a * b) ^ (-p).toNat - (b * b) ^ (-p).toNat) * c ^ (-p).toNat - (a * b * b) ^ (-p).toNat = _
    have e1 : (b * b * c) ^ (-p).toNat = (b * b) ^ (-p).toNat * c ^ (-p).toNat := Int.mul_pow
    have e2 : (a * b * c) ^ (-p).toNat = (a * b) ^ (-p).toNat * c ^ (-p).toNat := Int.mul_pow
    rw [Int.sub_mul, Int.add_mul, e1, e2]
    omega
theorem Grow.side {a b c d : Int} (g : Grow a b c d) (h : a * d ≠ b * c) {s : Int} (hs : s = if a * d < b * c then 1 else -1) : ∃ T, 1 ≤ T ∧ T ≤ 69 ∧ Turn (fun p => S a b c d (s * p)) T ∧ (res a b c d).1 = decide (S a b c d (s * T) = 0) ∧ ((res a b c d).1 = true → (res a b c d).2 = s * T) := by
  obtain ⟨r1, r2, r3⟩ := res_at (a := a) (b := b) (c := c) (d := d)
  by_cases z : a * d < b * c
  · rw [if_pos z] at hs
    subst hs
    obtain ⟨T, t1, t2, t, e⟩ := g.turn z
    have er := (r2 z).trans (resS_eq e)
    refine ⟨T, t1, t2, ?_, ?_, ?_⟩
    · simp only [Int.one_mul]; exact t
    · rw [er]
      by_cases y : S a b c d (1 * T) = 0
      · rw [if_pos y, decide_eq_true y]
      · rw [if_neg y, decide_eq_false y]
    · rw [er]
      by_cases y : S a b c d (1 * T) = 0
      · rw [if_pos y]; exact fun _ => rfl
      · rw [if_neg y]; exact fun h => nomatch h
  · rw [if_neg z] at hs
    subst hs
    obtain ⟨T, t1, t2, t, e⟩ := g.turn' (show b * c < a * d by omega)
    have er := (r3 (show b * c < a * d by omega)).trans (resS_eq e)
    refine ⟨T, t1, by omega, ?_, ?_, ?_⟩
    · have e1 : (fun p => S a b c d (-1 * p)) = fun p => S a b c d (-p) := by funext p; rw [Int.neg_mul, Int.one_mul]
      rw [e1]; exact t
    · rw [er]
      by_cases y : S a b c d (-1 * T) = 0
      · rw [if_pos y, decide_eq_true y]
      · rw [if_neg y, decide_eq_false y]
    · rw [er]
      by_cases y : S a b c d (-1 * T) = 0
      · rw [if_pos y]; exact fun _ => rfl
      · rw [if_neg y]; exact fun h => nomatch h
def powD (r : Bool × Int) : HD.D := if r.1 = true then .int r.2 else .non
def spd__law_power (ds : List HD.D) (n : Nat) (Q : HD.I → Nat → Prop) (_ : HD.XD) : Prop := ∃ (a b c : Int), ds = [.int a, .int b, .int c] ∧ (Grow a b b c) ∧ Q (.v (powD (res a b b c))) n
theorem use__law_power {a b c : Int} {n : Nat} {Q : HD.I → Nat → Prop} {E : HD.XD} (h : Grow a b b c) (q : Q (.v (powD (res a b b c))) n) : spd__law_power [.int a, .int b, .int c] n Q E := ⟨a, b, c, rfl, h, q⟩
theorem ok__law_power (T : Tx P K mg) : FnOk P w K mg base CX0 3 T.f__law_power T.fd__law_power ["one", "middle", "other"] (HD.lift K spd__law_power) := by
  refine T.F__law_power.ok sc__law_power (fun vs H Q E h => ?_) (fun cdv A outer s H vs Q E hr h => ?_)
  · obtain ⟨cx, nn, args, Qd, Ed, hc, hsp⟩ := h
    obtain ⟨a, b, c, rfl, h, q⟩ := hsp
    exact hc.ra.len
  obtain ⟨cx, nn, args, Qd, Ed, hc, hsp⟩ := h
  obtain ⟨a, b, c, rfl, h, q⟩ := hsp
  refine ⟨_, (pss_cons (ps_if (pt_cmpR (op_eqK (K := K) hr.units) (pe_op op_mulU (pv 0) (pv 2)) (pe_op op_mulU (pv 1) (pv 1)) (nomark _)) (pss_one (ps_ret pe_int)) pss_nil)
      (pss_cons (ps_set (i := 3) sc__law_power.nd rfl (by first | exact .inl rfl | exact .inr rfl) (pe_ifExp (pt_cmpR op_lt (pe_op op_mulU (pv 0) (pv 2)) (pe_op op_mulU (pv 1) (pv 1)) (nomark _)) pe_int (pe_un un_neg pe_int)))
      (pss_cons (ps_for PassesOwn.never (by rfl) (pi_range2 (by rfl) T.z_range (pa_cons pe_int (pa_cons pe_int pa_nil))) (pg_name (i := 4) sc__law_power.nd rfl (by first | exact .inl rfl | exact .inr rfl)) (pss_cons (ps_asg (pe_call (ok__law_wanted T) (hr.mono (by decide)) (by rfl) T.g__law_wanted T.F__law_wanted.kp T.b__law_wanted .nil pass0 (pa_cons (pv 0) (pa_cons (pv 1) (pa_cons (pv 1) (pa_cons (pe_op op_mulU (pv 3) (pv 4)) pa_nil))))) (pg_tupK (K := K) 3 (by rfl) (pgs_cons (pg_name (i := 5) sc__law_power.nd rfl (by first | exact .inl rfl | exact .inr rfl)) (pgs_cons (pg_name (i := 6) sc__law_power.nd rfl (by first | exact .inl rfl | exact .inr rfl)) (pgs_cons (pg_name (i := 7) sc__law_power.nd rfl (by first | exact .inl rfl | exact .inr rfl)) pgs_nil)))))
      (pss_cons (ps_set (i := 8) sc__law_power.nd rfl (by first | exact .inl rfl | exact .inr rfl) (pe_op op_sub (pe_op op_mulU (pv 6) (pe_call (ok__law_raised T) (hr.mono (by decide)) (by rfl) T.g__law_raised T.F__law_raised.kp T.b__law_raised .nil pass0 (pa_cons (pv 2) (pa_cons (pv 7) pa_nil)))) (pv 5)))
      (pss_cons (ps_if (pt_cmpR (op_eqK (K := K) hr.units) (pv 8) pe_int (nomark _)) (pss_one (ps_ret (pe_op op_mulU (pv 3) (pv 4)))) pss_nil)
      (pss_one (ps_if (pt_cmpR op_gt (pe_op op_mulU (pv 8) (pv 3)) pe_int (nomark _)) (pss_one (ps_ret pe_non)) pss_nil))))))
      (pss_one (ps_ret pe_non))))), HD.enter (ρ := [HD.S.v (.int a : HD.D), HD.S.v (.int b : HD.D), HD.S.v (.int c : HD.D), HD.S.un, HD.S.un, HD.S.un, HD.S.un, HD.S.un, HD.S.un]) hc rfl ?_⟩
  clear hc

  have o := h.ok4
  have o3 := o.ok3
  obtain ⟨g1, g2, g3, g4, g5⟩ := id h
  have hc4 : Sm 400 c := (Sm.of (m := 64) (by omega)).mono (by omega)
  fail "dr"
  refine HX.ited_ (fun h1 => ?_) (fun h1 => ?_)
  · have er : res a b b c = (true, 0) := if_pos h1
    rw [er] at q
    fail "dr"
    exact q
  · fail "dr"
    refine HD.joinN_ fun e he => ?_
    have he1 : e = 1 ∨ e = -1 := by
      rcases he with ⟨_, z⟩ | ⟨_, z⟩
      · exact .inl z
      · exact .inr z
    have he2 : e = if a * c < b * b then 1 else -1 := by
      rcases he with ⟨z, y⟩ | ⟨z, y⟩
      · rw [if_pos (of_decide_eq_true z), y]
      · rw [if_neg (of_decide_eq_false z), y]
    obtain ⟨T, t1, t2, t, r1, r2⟩ := h.side h1 he2
    clear he he2
    fail "dr"
    refine HD.ForD.inv (fun i ρ m => m = nn ∧ (i : Int) < T ∧ ∃ y1 y2 y3 y4 y5, ρ = [.v (.int a), .v (.int b), .v (.int c), .v (.int e), y1, y2, y3, y4, y5]) ⟨rfl, by omega, _, _, _, _, _, rfl⟩ (fun i d ρ m hd hi hP => ?_) (fun ρ m hP => ?_)
    · obtain ⟨rfl, hT, y1, y2, y3, y4, y5, rfl⟩ := hP
      obtain ⟨hi2, rfl⟩ := HD.rngD_at hd
      have hb : -80 ≤ e * (1 + (i : Int)) ∧ e * (1 + (i : Int)) ≤ 80 := by rcases he1 with rfl | rfl <;> omega
      have hne : e * (1 + (i : Int)) ≠ 0 := by rcases he1 with rfl | rfl <;> omega
      have le := left_eq (a := a) (b := b) (c := c) hne
      have k := WR_ok o3 hb
      have ls : (if e * (1 + (i : Int)) > 0 then S a b b c (e * (1 + (i : Int))) else - S a b b c (e * (1 + (i : Int)))) = e * S a b b c (e * (1 + (i : Int))) := by
        rcases he1 with rfl | rfl
        · rw [if_pos (by omega), Int.one_mul, Int.one_mul]
        · rw [if_neg (by omega)]; omega
      rw [ls] at le
      fail "dr"
      generalize WR a b b (e * (1 + (i : Int))) = w at k le ⊢
      obtain ⟨hm, hl, hh⟩ := k
      fail "dr"
      refine HD.iC_ (mulP hl hc4 (by omega)) ?_
      fail "dr"
      rw [le]
      have tn := t.neg (1 + (i : Int)) (by omega)
      have th : 1 + (i : Int) = T → 0 ≤ S a b b c (e * (1 + (i : Int))) := fun z => by rw [z]; exact t.here
      have r1' : 1 + (i : Int) = T → (res a b b c).1 = decide (S a b b c (e * (1 + (i : Int))) = 0) := fun z => by rw [z]; exact r1
      have r2' : 1 + (i : Int) = T → (res a b b c).1 = true → (res a b b c).2 = e * (1 + (i : Int)) := fun z => by rw [z]; exact r2
      generalize S a b b c (e * (1 + (i : Int))) = s at *
      have hes : e * s = 0 ↔ s = 0 := by rcases he1 with rfl | rfl <;> constructor <;> intro z <;> omega
      have hee : e * s * e = s := by rcases he1 with rfl | rfl <;> omega
      refine HX.ited_ (fun h2 => ?_) (fun h2 => ?_)
      · have hs0 := hes.mp h2
        have hT2 : 1 + (i : Int) = T := by
          rcases Int.lt_or_eq_of_le (show 1 + (i : Int) ≤ T by omega) with z | z
          · have := tn z; omega
          · exact z
        have e1 : (res a b b c).1 = true := by rw [r1' hT2]; exact decide_eq_true hs0
        have e2 := r2' hT2 e1
        unfold powD at q
        rw [if_pos e1, e2] at q
        fail "dr"
        exact q
      · have hs0 : ¬ s = 0 := fun z => h2 (hes.mpr z)
        fail "dr"
        rw [hee]
        refine HX.ited_ (fun h3 => ?_) (fun h3 => ?_)
        · have hT2 : 1 + (i : Int) = T := by
            rcases Int.lt_or_eq_of_le (show 1 + (i : Int) ≤ T by omega) with z | z
            · have := tn z; omega
            · exact z
          have e1 : (res a b b c).1 = false := by rw [r1' hT2]; exact decide_eq_false hs0
          unfold powD at q
          rw [e1] at q
          fail "dr"
          exact q
        · fail "dr"
          refine ⟨rfl, ?_, _, _, _, _, _, rfl⟩
          rcases Int.lt_or_eq_of_le (show 1 + (i : Int) ≤ T by omega) with z | z
          · omega
          · have := th z; omega
    · obtain ⟨rfl, hT, y1, y2, y3, y4, y5, rfl⟩ := hP
      rw [HD.rngD_len] at hT
      have : ((81 - 1 : Int).toNat : Int) = 80 := rfl
      omega
local macro_rules | `(tactic| fail "du") => `(tactic| ((with_reducible refine' use__law_power ?h ?_); (case h => assumption)))
def dueD (r : Bool × Int) : HD.D := .tup [.str (if r.1 = true then "bypower" else "uneven"), .int r.2]
def spd__law_due (ds : List HD.D) (n : Nat) (Q : HD.I → Nat → Prop) (_ : HD.XD) : Prop := ∃ xs : List Int, ds = [.lst (xs.map HD.D.int)] ∧ Row xs ∧ ∀ r, RR xs r → Q (.v (dueD r)) n
theorem ok__law_due (T : Tx P K mg) : FnOk P w K mg base CX0 4 T.f__law_due T.fd__law_due ["row"] (HD.lift K spd__law_due) := by
  refine T.F__law_due.ok sc__law_due (fun vs H Q E h => ?_) (fun cdv A outer s H vs Q E hr h => ?_)
  · obtain ⟨cx, nn, args, Qd, Ed, hc, hsp⟩ := h
    obtain ⟨xs, rfl, h, q⟩ := hsp
    exact hc.ra.len
  obtain ⟨cx, nn, args, Qd, Ed, hc, hsp⟩ := h
  obtain ⟨xs, rfl, h, q⟩ := hsp
  refine ⟨_, (pss_cons (ps_set (i := 1) sc__law_due.nd rfl (by first | exact .inl rfl | exact .inr rfl) (pe_call (ok__law_power T) (hr.mono (by decide)) (by rfl) T.g__law_power T.F__law_power.kp T.b__law_power .nil pass0 (pa_cons (pe_ix (ix_K (K := K)) (pv 0) pe_int (fun _ _ => rfl)) (pa_cons (pe_ix (ix_K (K := K)) (pv 0) pe_int (fun _ _ => rfl)) (pa_cons (pe_ix (ix_K (K := K)) (pv 0) pe_int (fun _ _ => rfl)) pa_nil)))))
      (pss_cons (ps_if (pt_cmpR op_isNU (pv 1) pe_non (nomark _)) (pss_one (ps_ret (pe_tup (pa_cons pe_str (pa_cons pe_int pa_nil))))) pss_nil)
      (pss_cons (ps_for PassesOwn.never (by rfl) (pi_range2 (by rfl) T.z_range (pa_cons pe_int (pa_cons (pe_op op_sub (pe_callB (call_lenK (K := K)) (by rfl) T.z_len (by decide +kernel) (pa_cons (pv 0) pa_nil)) pe_int) pa_nil))) (pg_name (i := 2) sc__law_due.nd rfl (by first | exact .inl rfl | exact .inr rfl)) (pss_one (ps_if (pt_not (pt_val (pe_call (ok__law_is_by T) (hr.mono (by decide)) (by rfl) T.g__law_is_by T.F__law_is_by.kp T.b__law_is_by .nil pass0 (pa_cons (pv 0) (pa_cons (pv 2) (pa_cons (pv 1) pa_nil)))))) (pss_one (ps_ret (pe_tup (pa_cons pe_str (pa_cons (pv 2) pa_nil))))) pss_nil)))
      (pss_one (ps_ret (pe_tup (pa_cons pe_str (pa_cons (pv 1) pa_nil)))))))), HD.enter (ρ := [HD.S.v (.lst (xs.map HD.D.int) : HD.D), HD.S.un, HD.S.un]) hc rfl ?_⟩
  clear hc

  have hb := res_bd h
  obtain ⟨hl1, hl2⟩ := h.len
  obtain ⟨u, v, w, r, e, g⟩ := row_three h
  have h0 : atI (xs.map HD.D.int) 0 = some (.int u) := by rw [e]; exact atI_nat (j := 0) rfl
  have h1 : atI (xs.map HD.D.int) 1 = some (.int v) := by rw [e]; exact atI_nat (j := 1) rfl
  have h2 : atI (xs.map HD.D.int) 2 = some (.int w) := by rw [e]; exact atI_nat (j := 2) rfl
  have er : resR xs = res u v v w := by rw [e]; rfl
  fail "dr"
  refine HD.ix_ (xs := xs.map HD.D.int) rfl h0 ?_
  fail "dr"
  refine HD.ix_ (xs := xs.map HD.D.int) rfl h1 ?_
  fail "dr"
  refine HD.ix_ (xs := xs.map HD.D.int) rfl h2 ?_
  fail "dr"
  rw [← er]
  clear e h0 h1 h2 er g
  unfold powD
  cases e : (resR xs).1 with
  | false =>
    fail "dr"
    exact q (false, 0) (.flat e)
  | true =>
    obtain ⟨hb1, hb2⟩ := hb e
    fail "dr"
    rw [List.length_map]
    fail "dr"
    refine HD.ForD.inv (fun i ρ m => m = nn ∧ (∃ y, ρ = [.v (.lst (xs.map HD.D.int)), .v (.int (resR xs).2), y]) ∧ ∀ j, 1 ≤ j → j < 1 + i → stepB xs j (resR xs).2 = true) ⟨rfl, ⟨_, rfl⟩, fun j h1 h2 => by omega⟩ (fun i d ρ m hd hi hP => ?_) (fun ρ m hP => ?_)
    · obtain ⟨rfl, ⟨y, rfl⟩, hs⟩ := hP
      obtain ⟨hi2, rfl⟩ := HD.rngD_at hd
      fail "dr"
      refine use__law_is_by (i := 1 + i) ⟨h, by omega, hb1, hb2⟩ ?_
      fail "dr"
      cases e2 : stepB xs (1 + i) (resR xs).2 with
      | true =>
        fail "dr"
        refine ⟨rfl, ⟨_, rfl⟩, fun j h1 h2 => ?_⟩
        rcases Nat.lt_or_ge j (1 + i) with z | z
        · exact hs j h1 z
        · rw [show j = 1 + i by omega]; exact e2
      | false =>
        fail "dr"
        exact q (false, ((1 + i : Nat) : Int)) (.bad e (by omega) (by omega) hs e2)
    · obtain ⟨rfl, ⟨y, rfl⟩, hs⟩ := hP
      rw [HD.rngD_len] at hs
      fail "dr"
      exact q _ (.good e fun j h1 h2 => hs j h1 (by omega))
theorem use_due {xs : List Int} {n : Nat} {Q : HD.I → Nat → Prop} {E : HD.XD} (h : Row xs) (q : ∀ r, RR xs r → Q (.v (dueD r)) n) : spd__law_due [.lst (xs.map HD.D.int)] n Q E := ⟨xs, rfl, h, q⟩
def spd__law_told (T : Tx P K mg) (ds : List HD.D) (n : Nat) (Q : HD.I → Nat → Prop) (_ : HD.XD) : Prop := ∃ r, ds = [rowP T r] ∧ Q (.v (dueD r)) n
theorem ok__law_told (T : Tx P K mg) : FnOk P w K mg base CX0 1 T.f__law_told T.fd__law_told ["paper"] (HD.lift K (spd__law_told T)) := by
  refine T.F__law_told.ok sc__law_told (fun vs H Q E h => ?_) (fun cdv A outer s H vs Q E hr h => ?_)
  · obtain ⟨cx, nn, args, Qd, Ed, hc, hsp⟩ := h
    obtain ⟨r, rfl, q⟩ := hsp
    exact hc.ra.len
  obtain ⟨cx, nn, args, Qd, Ed, hc, hsp⟩ := h
  obtain ⟨r, rfl, q⟩ := hsp
  refine ⟨_, (pss_one (ps_ret (pe_ifExp (pt_val (pe_callB (call_isiK' (K := K)) (by rfl) T.z_isinstance (by decide +kernel) (pa_cons (pv 0) (pa_cons (pe_glob (v := .ref T.C_ByPower) (by rfl) T.g_ByPower rfl) pa_nil)))) (pe_tup (pa_cons pe_str (pa_cons (HC.pe_fldK (K := K) (pv 0)) pa_nil))) (pe_tup (pa_cons pe_str (pa_cons (HC.pe_fldK (K := K) (pv 0)) pa_nil)))))), HD.enter (ρ := [HD.S.v (rowP T r : HD.D)]) hc rfl ?_⟩
  clear hc

  obtain ⟨b, p⟩ := r
  unfold dueD at q
  unfold rowP
  cases b with
  | true =>
    fail "dr"
    exact q
  | false =>
    fail "dr"
    exact q
theorem use_told {T : Tx P K mg} {r : Bool × Int} {n : Nat} {Q : HD.I → Nat → Prop} {E : HD.XD} (q : Q (.v (dueD r)) n) : spd__law_told T [rowP T r] n Q E := ⟨r, rfl, q⟩
theorem cutT (xs : List HD.D) (k : Nat) : HD.cutD xs none (some (k : Int)) = xs.take k := by
  unfold HD.cutD
  rw [HT.sIx_none, HT.sIx_nat, List.drop_zero, Nat.sub_zero]
  by_cases h : k ≤ xs.length
  · rw [Nat.min_eq_left h]
  · rw [Nat.min_eq_right (by omega), List.take_of_length_le (Nat.le_refl _), List.take_of_length_le (by omega)]
theorem cutR (xs : List HD.D) (k : Nat) : HD.cutD xs (some (k : Int)) none = xs.drop k := by
  unfold HD.cutD
  rw [HT.sIx_none, HT.sIx_nat]
  by_cases h : k ≤ xs.length
  · rw [Nat.min_eq_left h, List.take_of_length_le (by rw [List.length_drop]; omega)]
  · rw [Nat.min_eq_right (by omega), Nat.sub_self, List.take_zero, List.drop_of_length_le (by omega)]
def RowQ (n k : Nat) (Q : HD.I → Nat → Prop) : Prop := ∀ (xs : List Int) (m : Nat), Row xs → m ≤ n + k → Q (.o (.lst (xs.map HD.D.int))) m
theorem fil_int (f : Int → Bool) (g : HD.D → Bool) (h : ∀ i, g (.int i) = f i) : ∀ xs : List Int, ((xs.map HD.D.int).filter g).map id = (xs.filter f).map HD.D.int
  | [] => rfl
  | x :: xs => by
    rw [List.map_cons, List.filter_cons, List.filter_cons, h x]
    cases f x with
    | true => rw [if_pos rfl, if_pos rfl, List.map_cons, List.map_cons, fil_int f g h xs]; rfl
    | false => rw [if_neg Bool.false_ne_true, if_neg Bool.false_ne_true, fil_int f g h xs]
theorem ifMid {K : PySem.W.Frag} {c : HD.Wd K} {ρ : List HD.S} {n : Nat} {nx bk ct : HD.QS} {rt : HD.I → Nat → Prop} {t u : L2.TS} {b : Bool} (Mid : HD.QS) (h : if b = true then HD.GS c ρ n [] t ⟨Mid, rt, bk, ct⟩ else HD.GS c ρ n [] u ⟨Mid, rt, bk, ct⟩) (h2 : ∀ ρ n, Mid ρ n → nx ρ n) : if b = true then HD.GS c ρ n [] t ⟨nx, rt, bk, ct⟩ else HD.GS c ρ n [] u ⟨nx, rt, bk, ct⟩ := by
  cases b with
  | true => rw [if_pos rfl] at h ⊢; exact h.mono h2 (fun _ _ z => z) (fun _ _ z => z) (fun _ _ z => z)
  | false => rw [if_neg Bool.false_ne_true] at h ⊢; exact h.mono h2 (fun _ _ z => z) (fun _ _ z => z) (fun _ _ z => z)
def spd__law_row (ds : List HD.D) (n : Nat) (Q : HD.I → Nat → Prop) (_ : HD.XD) : Prop := ds = [.hat] ∧ n ≤ 80000 ∧ RowQ n 40 Q
theorem ok__law_row (T : Tx P K mg) : FnOk P w K mg base CX0 5 T.f__law_row T.fd__law_row ["hat"] (HD.lift K spd__law_row) := by
  refine T.F__law_row.ok sc__law_row (fun vs H Q E h => ?_) (fun cdv A outer s H vs Q E hr h => ?_)
  · obtain ⟨cx, nn, args, Qd, Ed, hc, hsp⟩ := h
    obtain ⟨rfl, hn, q⟩ := hsp
    exact hc.ra.len
  obtain ⟨cx, nn, args, Qd, Ed, hc, hsp⟩ := h
  obtain ⟨rfl, hn, q⟩ := hsp
  refine ⟨_, (pss_cons (ps_asg (pe_call (ok__law_begun T) (hr.mono (by decide)) (by rfl) T.g__law_begun T.F__law_begun.kp T.b__law_begun .nil pass0 (pa_cons (pv 0) pa_nil)) (pg_tupK (K := K) 3 (by rfl) (pgs_cons (pg_name (i := 1) sc__law_row.nd rfl (by first | exact .inl rfl | exact .inr rfl)) (pgs_cons (pg_name (i := 2) sc__law_row.nd rfl (by first | exact .inl rfl | exact .inr rfl)) (pgs_cons (pg_name (i := 3) sc__law_row.nd rfl (by first | exact .inl rfl | exact .inr rfl)) pgs_nil)))))
      (pss_cons (ps_setLc (i := 5) (own := [("number", 4)]) (g := gName 4) (by rfl) sc__law_row.nd rfl rfl (sw_true rfl rfl rfl (by decide +kernel)) (pi_listK (K := K) (pe_call (ok__law_gone_on T) (hr.mono (by decide)) (by rfl) T.g__law_gone_on T.F__law_gone_on.kp T.b__law_gone_on .nil pass0 (pa_cons (pv 1) (pa_cons (pv 2) (pa_cons (pe_op (op_addK (K := K)) pe_int (pe_call (ok__law_lot T) (hr.mono (by decide)) (by rfl) T.g__law_lot T.F__law_lot.kp T.b__law_lot .nil pass0 (pa_cons (pv 0) (pa_cons pe_int pa_nil)))) (pa_cons (pv 3) pa_nil)))))) (blkOk_by (own := [("number", 4)]) (N := n__law_row) (sc := defScope s__law_row) (by decide +kernel)) (fun _ _ _ _ _ => (pg_name (i := 4) sc__law_row.nd rfl (by first | exact .inl rfl | exact .inr rfl))) (fun _ _ _ _ _ => (pts_one (pt_cmpR op_lt (pv 4) pe_int (nomark _)))) (fun _ _ _ _ _ => (pv 4)))
      (pss_cons (ps_set (i := 5) sc__law_row.nd rfl (by first | exact .inl rfl | exact .inr rfl) (pe_callB (cr_sortedSet (by rfl)) (by rfl) T.z_sorted (by decide +kernel) (pa_cons (pe_callTy (HQ.call_setL (K := K) (by rfl)) (by rfl) T.z_set (by decide +kernel) (pa_cons (pe_op (op_addK (K := K)) (pv 5) (pe_lc (own := [("turn", 6)]) (g := gName 6) (tt := tYes) (by rfl) sc__law_row.nd (pi_range1 (by rfl) T.z_range (pa_cons (pe_call (ok__law_one T) (hr.mono (by decide)) (by rfl) T.g__law_one T.F__law_one.kp T.b__law_one .nil pass0 (pa_cons (pv 0) (pa_cons (pe_lst (pa_cons pe_int (pa_cons pe_int (pa_cons pe_int (pa_cons pe_int (pa_cons pe_int pa_nil)))))) pa_nil))) pa_nil)) (blkOk_by (own := [("turn", 6)]) (N := n__law_row) (sc := defScope s__law_row) (by decide +kernel)) (fun _ _ _ _ _ => (pg_name (i := 6) sc__law_row.nd rfl (by first | exact .inl rfl | exact .inr rfl))) (fun _ _ _ _ _ => pts_nil) (fun _ _ _ _ _ => (pe_op (op_addK (K := K)) pe_int (pe_call (ok__law_lot T) (hr.mono (by decide)) (by rfl) T.g__law_lot T.F__law_lot.kp T.b__law_lot .nil pass0 (pa_cons (pv 0) (pa_cons pe_int pa_nil))))))) pa_nil)) pa_nil)))
      (pss_cons (ps_if (pt_cmpR (op_eqK (K := K) hr.units) (pe_call (ok__law_lot T) (hr.mono (by decide)) (by rfl) T.g__law_lot T.F__law_lot.kp T.b__law_lot .nil pass0 (pa_cons (pv 0) (pa_cons pe_int pa_nil))) pe_int (nomark _)) (pss_cons (ps_set (i := 7) sc__law_row.nd rfl (by first | exact .inl rfl | exact .inr rfl) (pe_call (ok__law_lot T) (hr.mono (by decide)) (by rfl) T.g__law_lot T.F__law_lot.kp T.b__law_lot .nil pass0 (pa_cons (pv 0) (pa_cons (pe_callB (call_lenK (K := K)) (by rfl) T.z_len (by decide +kernel) (pa_cons (pv 5) pa_nil)) pa_nil))))
      (pss_one (ps_set (i := 5) sc__law_row.nd rfl (by first | exact .inl rfl | exact .inr rfl) (pe_callB (cr_sortedSet (by rfl)) (by rfl) T.z_sorted (by decide +kernel) (pa_cons (pe_callTy (HQ.call_setL (K := K) (by rfl)) (by rfl) T.z_set (by decide +kernel) (pa_cons (pe_op (op_addK (K := K)) (pe_op (op_addK (K := K)) (pe_slice (sl_K (K := K)) (pv 5) po_none (po_some (pv 7))) (pe_lst (pa_cons (pe_op op_sub (pe_op (op_addK (K := K)) (pe_ix (ix_K (K := K)) (pv 5) (pv 7) (fun _ _ => rfl)) pe_int) (pe_op op_mulU pe_int (pe_call (ok__law_lot T) (hr.mono (by decide)) (by rfl) T.g__law_lot T.F__law_lot.kp T.b__law_lot .nil pass0 (pa_cons (pv 0) (pa_cons pe_int pa_nil))))) pa_nil))) (pe_slice (sl_K (K := K)) (pv 5) (po_some (pe_op (op_addK (K := K)) (pv 7) pe_int)) po_none)) pa_nil)) pa_nil))))) pss_nil)
      (pss_cons (ps_set (i := 5) sc__law_row.nd rfl (by first | exact .inl rfl | exact .inr rfl) (pe_slice (sl_K (K := K)) (pe_lc (own := [("number", 4)]) (g := gName 4) (by rfl) sc__law_row.nd (pi_listK (K := K) (pv 5)) (blkOk_by (own := [("number", 4)]) (N := n__law_row) (sc := defScope s__law_row) (by decide +kernel)) (fun _ _ _ _ _ => (pg_name (i := 4) sc__law_row.nd rfl (by first | exact .inl rfl | exact .inr rfl))) (fun _ _ _ _ _ => (pts_one (pt_chain op_lt op_lt pe_int (pv 4) pe_int))) (fun _ _ _ _ _ => (pv 4))) po_none (po_some pe_int)))
      (pss_one (ps_ret (pe_ifExp (pt_cmpR op_gt (pe_callB (call_lenK (K := K)) (by rfl) T.z_len (by decide +kernel) (pa_cons (pv 5) pa_nil)) pe_int (nomark _)) (pv 5) (pe_lst (pa_cons (pe_op (op_addK (K := K)) pe_int (pe_op op_modU (pe_callTy call_intU (by rfl) T.z_int (by decide +kernel) (pa_cons (pv 3) pa_nil)) pe_int)) (pa_cons pe_int (pa_cons (pe_op (op_addK (K := K)) pe_int (pe_op op_modU (pe_callTy call_intU (by rfl) T.z_int (by decide +kernel) (pa_cons (pv 3) pa_nil)) pe_int)) pa_nil)))))))))))), HD.enter (ρ := [HD.S.v (.hat : HD.D), HD.S.un, HD.S.un, HD.S.un, HD.S.un, HD.S.un, HD.S.un, HD.S.un]) hc rfl ?_⟩
  clear hc

  fail "dr"
  refine use_begun (by omega) fun x y p m hx hy hp hm => ?_
  fail "dr"
  intro u u0 u1
  fail "dr"
  have hall : ∀ z ∈ goneL x y (3 + u) p, 1 ≤ z := fun z hz => by
    rcases List.mem_cons.mp hz with rfl | hz
    · exact hx.1
    rcases List.mem_cons.mp hz with rfl | hz
    · exact hy.1
    · exact (gone_all hx hy hp _ 0 x y (Two.begin hx hy) (by omega) z hz).1
  have hglen := gone_len p ((3 + u).toNat - 2) x y
  have hlen : (goneL x y (3 + u) p).length ≤ 14 := by unfold goneL; simp only [List.length_cons]; omega
  have hhd : x ∈ goneL x y (3 + u) p := by unfold goneL; simp
  refine HD.CpD.filD (xs := (goneL x y (3 + u) p).map HD.D.int) (fun d => match d with | .int i => decide (i < 100) | _ => false) id (by rw [List.length_map]; omega) (fun d hd ys => ?_) ?_
  · obtain ⟨i, _, rfl⟩ := List.mem_map.mp hd
    fail "dr"
    refine ⟨rfl, ?_⟩
    by_cases h : i < 100
    · rw [if_pos (decide_eq_true h)]
      fail "dr"
      exact ⟨rfl, rfl, rfl⟩
    · rw [if_neg (by rw [decide_eq_false h]; exact Bool.false_ne_true)]
      exact ⟨rfl, rfl⟩
  rw [fil_int (fun i => decide (i < 100)) _ (fun _ => rfl)]
  have hl1 : ((goneL x y (3 + u) p).filter fun i => decide (i < 100)).length ≤ 14 := Nat.le_trans (List.length_filter_le _ _) hlen
  have hx1 : x ∈ (goneL x y (3 + u) p).filter fun i => decide (i < 100) := List.mem_filter.mpr ⟨hhd, decide_eq_true (by omega)⟩
  generalize ((goneL x y (3 + u) p).filter fun i => decide (i < 100)) = xs at hl1 hx1 ⊢
  clear hall hglen hlen hhd
  fail "dr"
  refine HD.use_one rfl (by omega) ⟨by show 0 < 5; omega, by show 5 ≤ 1000; omega⟩ fun z hz => ?_
  obtain ⟨k, rfl, k0, k1⟩ : ∃ k : Int, z = .int k ∧ 0 ≤ k ∧ k ≤ 6 := by
    simp only [List.mem_cons, List.mem_nil_iff, or_false] at hz
    rcases hz with rfl | rfl | rfl | rfl | rfl <;> exact ⟨_, rfl, by omega, by omega⟩
  clear hz
  fail "dr"
  refine HD.CpD.inv (fun i ys ρ n => ∃ zs : List Int, ys = zs.map HD.D.int ∧ zs.length = i ∧ ρ = [.v .hat, .v (.int x), .v (.int y), .v (.int p), .un, .ow (.lst (xs.map HD.D.int)), .un, .un] ∧ n ≤ m + 2 + i) ⟨[], rfl, rfl, rfl, by omega⟩ (fun i d ys ρ n hd hi hP => ?_) (fun ys ρ n hP => ?_)
  · obtain ⟨zs, rfl, hl, rfl, hn2⟩ := hP
    obtain ⟨hi2, rfl⟩ := HD.rngD_at hd
    have hi6 : i < 6 := by omega
    fail "dr"
    intro w w0 w1
    fail "dr"
    exact ⟨Nat.ble_eq_true_of_le (by rw [List.length_map]; omega), zs ++ [1 + w], by rw [List.map_append]; rfl, by rw [List.length_append, hl]; rfl, rfl, by omega⟩
  obtain ⟨zs, rfl, hl, rfl, hn2⟩ := hP
  rw [HD.rngD_len] at hl hn2
  have hl6 : zs.length ≤ 6 := by omega
  refine HD.addL_ rfl rfl (by rw [List.length_map, List.length_map]; omega) ?_
  fail "dr"
  refine ⟨xs ++ zs, by rw [List.map_append], by rw [List.length_append]; omega, fun ms hs hm2 hml => ?_⟩
  rw [List.length_append] at hml
  have hm0 : 0 < ms.length := List.length_pos_of_mem ((hm2 x).mpr (List.mem_append_left _ hx1))
  clear hm2
  fail "dr"
  intro d3 _ _
  fail "dr"
  have hml : ms.length ≤ 20 := by omega
  clear hx1 hl1
  clear hl6 hl
  refine ifMid (fun ρ n => ∃ (ms : List Int) (s7 : HD.S), ms.Pairwise (· < ·) ∧ ms.length ≤ 22 ∧ n ≤ m + 20 ∧ ρ = [.v .hat, .v (.int x), .v (.int y), .v (.int p), .un, .ow (.lst (ms.map HD.D.int)), .un, s7]) ?_ ?_
  · by_cases hd : d3 = 0
    · rw [if_pos (decide_eq_true hd)]
      fail "dr"
      rw [List.length_map]
      refine ⟨(ms.length : Int), rfl, by omega, ⟨by omega, by omega⟩, fun a a0 a1 => ?_⟩
      obtain ⟨a, rfl⟩ := Int.eq_ofNat_of_zero_le a0
      have ha : a < ms.length := by omega
      fail "dr"
      rw [show HD.cutD (ms.map HD.D.int) none (some (a : Int)) = ((ms.take a).map HD.D.int) from by rw [cutT, List.map_take]]
      fail "dr"
      refine HD.ix_ (xs := ms.map HD.D.int) rfl (atI_nat (by rw [List.getElem?_map, List.getElem?_eq_getElem ha]; rfl)) ?_
      fail "dr"
      intro b b0 b1
      fail "dr"
      refine HD.addL_ rfl rfl (by rw [List.length_map, List.length_take]; show _ + 1 ≤ _; omega) ?_
      fail "dr"
      rw [show HD.cutD (ms.map HD.D.int) (some ((a : Int) + 1)) none = ((ms.drop (a + 1)).map HD.D.int) from by rw [show ((a : Int) + 1) = ((a + 1 : Nat) : Int) from rfl, cutR, List.map_drop]]
      refine HD.addL_ rfl rfl (by rw [List.length_append, List.length_map, List.length_map, List.length_take, List.length_drop]; show _ + 1 + _ ≤ _; omega) ?_
      fail "dr"
      refine ⟨ms.take a ++ [ms[a] + 1 - 2 * b] ++ ms.drop (a + 1), by rw [List.map_append, List.map_append]; rfl, ?_, fun ns hs2 _ hl2 => ?_⟩
      · rw [List.length_append, List.length_append, List.length_take, List.length_drop]; show _ + 1 + _ < _; omega
      rw [List.length_append, List.length_append, List.length_take, List.length_drop, show [ms[a] + 1 - 2 * b].length = 1 from rfl] at hl2
      fail "dr"
      exact ⟨ns, .v (.int a), hs2, by omega, by omega, rfl⟩
    · rw [if_neg (by rw [decide_eq_false hd]; exact Bool.false_ne_true)]
      fail "dr"
      exact ⟨ms, .un, hs, by omega, by omega, rfl⟩
  clear hs hml hm0
  rintro ρ n ⟨ms, s7, hs, hml, hn3, rfl⟩
  fail "dr"
  refine HD.CpD.filD (xs := ms.map HD.D.int) (fun d => match d with | .int i => decide (0 < i ∧ i < 100) | _ => false) id (by rw [List.length_map]; omega) (fun d hd ys => ?_) ?_
  · obtain ⟨i, _, rfl⟩ := List.mem_map.mp hd
    by_cases h : 0 < i
    · by_cases h2 : i < 100
      · fail "dr"
        refine ⟨(decide_eq_true h2).trans (decide_eq_true ⟨h, h2⟩).symm, ?_⟩
        rw [if_pos (decide_eq_true ⟨h, h2⟩)]
        fail "dr"
        exact ⟨rfl, rfl, rfl⟩
      · fail "dr"
        refine ⟨(decide_eq_false h2).trans (decide_eq_false fun z => h2 z.2).symm, ?_⟩
        rw [if_neg (by rw [decide_eq_false fun z => h2 z.2]; exact Bool.false_ne_true)]
        exact ⟨rfl, rfl⟩
    · fail "dr"
      refine ⟨(decide_eq_false fun z => h z.1).symm, ?_⟩
      rw [if_neg (by rw [decide_eq_false fun z => h z.1]; exact Bool.false_ne_true)]
      exact ⟨rfl, rfl⟩
  rw [fil_int (fun i => decide (0 < i ∧ i < 100)) _ (fun _ => rfl)]
  have hs2 : ((ms.filter fun i => decide (0 < i ∧ i < 100)).take 12).Pairwise (· < ·) := (hs.sublist List.filter_sublist).sublist (List.take_sublist _ _)
  have hb2 : ∀ z ∈ (ms.filter fun i => decide (0 < i ∧ i < 100)).take 12, 1 ≤ z ∧ z ≤ 99 := fun z hz => by
    have := of_decide_eq_true (List.mem_filter.mp (List.mem_of_mem_take hz)).2
    omega
  have hl2 : ((ms.filter fun i => decide (0 < i ∧ i < 100)).take 12).length ≤ 12 := by rw [List.length_take]; omega
  fail "dr"
  rw [show HD.cutD ((ms.filter fun i => decide (0 < i ∧ i < 100)).map HD.D.int) none (some 12) = ((ms.filter fun i => decide (0 < i ∧ i < 100)).take 12).map HD.D.int from by rw [show (some (12 : Int)) = some ((12 : Nat) : Int) from rfl, cutT, List.map_take]]
  generalize (ms.filter fun i => decide (0 < i ∧ i < 100)).take 12 = zs at hs2 hb2 hl2 ⊢
  fail "dr"
  by_cases h3 : zs.length ≤ 2
  · rw [if_neg (by rw [decide_eq_false (by rw [List.length_map]; omega)]; exact Bool.false_ne_true)]
    fail "dr"
    intro r1 _ a1 b1
    fail "dr"
    intro r2 _ a2 b2
    fail "dr"
    refine q [1 + r1, 7, 9 + r2] n ⟨⟨Nat.le_refl _, by show 3 ≤ 12; omega⟩, ?_, ?_⟩ (by omega)
    · simp only [List.pairwise_cons, List.mem_cons, List.mem_nil_iff, or_false, forall_eq_or_imp, forall_eq, List.Pairwise.nil, and_true]
      refine ⟨⟨by omega, by omega⟩, by omega, fun _ z => z.elim⟩
    · simp only [List.mem_cons, List.mem_nil_iff, or_false, forall_eq_or_imp, forall_eq]
      refine ⟨by omega, by omega, by omega⟩
  · rw [if_pos (decide_eq_true (by rw [List.length_map]; omega))]
    fail "dr"
    exact q zs n ⟨⟨by omega, hl2⟩, hs2, hb2⟩ (by omega)
theorem use_row {n : Nat} {Q : HD.I → Nat → Prop} {E : HD.XD} (hn : n ≤ 80000) (q : RowQ n 40 Q) : spd__law_row [.hat] n Q E := ⟨rfl, hn, q⟩
/-- what stands in a row that is shown -/
def ShI (d : HD.D) : Prop := (∃ i : Int, d = .int i ∧ i.natAbs.log2 < 1920) ∨ d = .str "bypower" ∨ d = .str "uneven"
theorem ShI.all {d : HD.D} (h : ShI d) : d.dat = true ∧ d.py.showable = true ∧ d.py.hasDict = false ∧ d.py.depth = 0 ∧ d.py.shown.length ≤ 1921 := by
  rcases h with ⟨i, rfl, h⟩ | rfl | rfl
  · refine ⟨rfl, decide_eq_true h, rfl, rfl, ?_⟩
    exact int_text_len_1921 h
  · exact ⟨rfl, rfl, rfl, rfl, by decide +kernel⟩
  · exact ⟨rfl, rfl, rfl, rfl, by decide +kernel⟩
theorem ShI.list : ∀ {ds : List HD.D}, (∀ d ∈ ds, ShI d) → HD.D.dats ds = true ∧ PyData.showableAll (HD.D.pys ds) = true ∧ PyData.hasDictAll (HD.D.pys ds) = false ∧ PyData.depthAll (HD.D.pys ds) = 0 ∧ ((PyData.shownAll (HD.D.pys ds)).map (·.length)).sum ≤ 1921 * ds.length ∧ (HD.D.pys ds).length = ds.length
  | [], _ => ⟨rfl, rfl, rfl, rfl, Nat.le_refl _, rfl⟩
  | d :: ds, h => by
    obtain ⟨a1, a2, a3, a4, a5⟩ := (h d (by simp)).all
    obtain ⟨b1, b2, b3, b4, b5, b6⟩ := ShI.list (ds := ds) fun e he => h e (List.mem_cons_of_mem _ he)
    refine ⟨?_, ?_, ?_, ?_, ?_, ?_⟩
    · rw [HD.D.dats, a1, b1]; rfl
    · rw [HD.D.pys, PyData.showableAll, a2, b2]; rfl
    · rw [HD.D.pys, PyData.hasDictAll, a3, b3]; rfl
    · rw [HD.D.pys, PyData.depthAll, a4, b4]; rfl
    · rw [HD.D.pys, PyData.shownAll, List.map_cons, List.sum_cons, List.length_cons]; omega
    · rw [HD.D.pys, List.length_cons, List.length_cons, b6]
theorem shows_tup {ds : List HD.D} (h : ∀ d ∈ ds, ShI d) (hl : ds.length ≤ 1000) : (HD.D.tup ds).dat = true ∧ (HD.D.tup ds).py.showable = true ∧ (HD.D.tup ds).py.hasDict = false ∧ (HD.D.tup ds).py.depth < 30 ∧ (HD.D.tup ds).py.shown.length ≤ sizeLine := by
  obtain ⟨b1, b2, b3, b4, b5, b6⟩ := ShI.list h
  have e : (HD.D.tup ds).py = .tuple (HD.D.pys ds) := by rw [HD.D.py]
  rw [e]
  refine ⟨by rw [HD.D.dat]; exact b1, by rw [PyData.showable]; exact b2, by rw [PyData.hasDict]; exact b3, by rw [PyData.depth, b4]; decide, ?_⟩
  rw [PyData.shown_tuple, Str.length_append, Str.length_append]
  have j := StrLaws.join_length_le ", " (PyData.shownAll (HD.D.pys ds))
  rw [PyData.shownAll_length, b6] at j
  have c1 : (("(" : String) : Str).length = 1 := rfl
  have c2 : ((", " : String) : Str).length = 2 := rfl
  have c3 : ((if (HD.D.pys ds).length == 1 then ",)" else ")" : String) : Str).length ≤ 2 := by split <;> decide
  rw [c2] at j
  rw [c1]
  unfold sizeLine
  omega
theorem ShI.row {xs : List Int} (h : ∀ z ∈ xs, 1 ≤ z ∧ z < 2 ^ 80) : ∀ d ∈ xs.map HD.D.int, ShI d := fun d hd => by
  obtain ⟨z, hz, rfl⟩ := List.mem_map.mp hd
  obtain ⟨h1, h2⟩ := h z hz
  refine .inl ⟨z, rfl, ?_⟩
  exact Nat.log2_lt (by omega) |>.mpr (Nat.lt_of_lt_of_le (by omega : z.natAbs < 2 ^ 80) (Nat.pow_le_pow_right (by decide) (by decide)))
/-! what is right of a bent paper -/
theorem step0 {xs : List Int} (h : Row xs) : ((resR xs).1 = true → stepB xs 0 (resR xs).2 = true) ∧ ∀ i, stepB xs 0 i = true → resR xs = (true, i) := by
  obtain ⟨a, b, c, r, rfl, g⟩ := row_three h
  refine ⟨fun e => ?_, fun i e => g.by_res e⟩
  have t := g.tells
  unfold Tells at t
  have e' : (res a b b c).1 = true := e
  rw [if_pos e'] at t
  exact t.2
theorem allB_iff {xs : List Int} {p : Int} {m : Nat} : allB xs p m = true ↔ ∀ j, j < m → stepB xs j p = true := by
  unfold allB
  rw [List.all_eq_true]
  exact ⟨fun h j hj => h j (List.mem_range.mpr hj), fun h j hj => h j (List.mem_range.mp hj)⟩
theorem by_right {xs : List Int} {b : Bool} {v : Int} (h : Row xs) (hr : RR xs (b, v)) (i : Int) : (isWi (.int i) (some (-80)) (some 80) && byR xs (.int i)) = decide (b = true ∧ i = v) := by
  obtain ⟨s1, s2⟩ := step0 h
  have hl := h.len
  have hb := res_bd h
  rw [Bool.eq_iff_iff, decide_eq_true_iff, Bool.and_eq_true]
  simp only [byR]
  rw [allB_iff]
  constructor
  · rintro ⟨_, h2⟩
    have e := s2 i (h2 0 (by omega))
    have := hr.uniq (.good (xs := xs) (by rw [e]) fun j h1 h3 => by rw [e]; exact h2 j (by omega))
    rw [e] at this
    exact ⟨congrArg Prod.fst this, (congrArg Prod.snd this).symm⟩
  · rintro ⟨rfl, rfl⟩
    cases hr with
    | good e h2 =>
      refine ⟨isWi_t (hb e), fun j hj => ?_⟩
      rcases Nat.eq_zero_or_pos j with rfl | z
      · exact s1 e
      · exact h2 j z (by omega)
theorem un_right {xs : List Int} {b : Bool} {v : Int} (h : Row xs) (hr : RR xs (b, v)) (i : Int) : (isWi (.int i) (some 0) (some ((xs.length : Int) - 3)) && unR xs (.int i)) = decide (b = false ∧ i = v) := by
  obtain ⟨s1, s2⟩ := step0 h
  have hl := h.len
  rw [Bool.eq_iff_iff, decide_eq_true_iff, Bool.and_eq_true]
  simp only [unR]
  constructor
  · rintro ⟨h1, h2⟩
    simp only [isWi, Bool.and_eq_true, decide_eq_true_eq] at h1
    by_cases z : i = 0
    · rw [if_pos z] at h2
      have := hr.uniq (.flat (xs := xs) (by simpa using h2))
      exact ⟨congrArg Prod.fst this, z.trans (congrArg Prod.snd this).symm⟩
    · rw [if_neg z, Bool.and_eq_true, Bool.and_eq_true, allB_iff] at h2
      obtain ⟨k, rfl⟩ := Int.eq_ofNat_of_zero_le h1.1
      have := hr.uniq (.bad (xs := xs) (i := k) h2.1 (by omega) (by omega) (fun j _ hj => h2.2.1 j (by simpa using hj)) (by simpa using h2.2.2))
      exact ⟨congrArg Prod.fst this, (congrArg Prod.snd this).symm⟩
  · rintro ⟨rfl, rfl⟩
    cases hr with
    | flat e =>
      refine ⟨isWi_t ⟨by omega, by omega⟩, ?_⟩
      rw [if_pos rfl, e]; rfl
    | @bad k e h1 h2 h3 h4 =>
      refine ⟨isWi_t ⟨by omega, by omega⟩, ?_⟩
      rw [if_neg (by omega), e, Int.toNat_natCast, h4, Bool.not_false, Bool.and_true, Bool.true_and, allB_iff]
      intro j hj
      rcases Nat.eq_zero_or_pos j with rfl | z
      · exact s1 e
      · exact h3 j z hj
theorem rr_bd {xs : List Int} {b : Bool} {v : Int} (h : Row xs) (hr : RR xs (b, v)) : -80 ≤ v ∧ v ≤ 80 := by
  have hl := h.len
  cases hr with
  | flat e => omega
  | bad e h1 h2 h3 h4 => omega
  | good e h2 => exact res_bd h e
/-- the kinds of values that are tried -/
inductive Val : HD.D → Prop
  | int (i : Int) : Val (.int i)
  | non : Val .non
  | yes : Val (.bl true)
  | str (z : Str) : PyData.strOk z = true → Val (.str z)
  | lst : Val (.lst [.int 0])
def rightB (w w' : Str) (v : Int) (d : HD.D) : Bool := match d with
  | .int i => decide (w' = w) && decide (i = v)
  | _ => false
theorem eqv_right {w w' : Str} {v : Int} {d : HD.D} (h : Val d) (hb : d ≠ .bl true) : HD.D.eqv (.tup [.str w', d]) (.tup [.str w, .int v]) = rightB w w' v d := by
  cases h with
  | yes => exact absurd rfl hb
  | int i =>
    simp only [HD.D.eqv, HD.D.py, HD.D.pys, PyData.eqv, PyData.eqvAll, rightB, Bool.and_true]
    rw [Bool.eq_iff_iff]
    simp
  | _ => simp [HD.D.eqv, HD.D.py, HD.D.pys, PyData.eqv, PyData.eqvAll, rightB]
theorem eqv_two {x y : Int} : HD.D.eqv (.tup [.int x, .int y]) (.tup [.int x, .int y]) = true := by
  simp [HD.D.eqv, HD.D.py, HD.D.pys, PyData.eqv, PyData.eqvAll]
theorem eqv_ints : ∀ xs : List Int, PyData.eqvAll (HD.D.pys (xs.map HD.D.int)) (HD.D.pys (xs.map HD.D.int)) = true
  | [] => by simp [HD.D.pys, PyData.eqvAll]
  | x :: xs => by
    rw [List.map_cons, HD.D.pys, PyData.eqvAll, eqv_ints xs]
    simp [HD.D.py, PyData.eqv]
theorem dats_ints : ∀ xs : List Int, HD.D.dats (xs.map HD.D.int) = true
  | [] => rfl
  | x :: xs => by rw [List.map_cons, HD.D.dats, dats_ints xs]; rfl
theorem lay_ints : ∀ xs : List Int, PyData.canLayAll0 (HD.D.pys (xs.map HD.D.int)) = true ∧ PyData.depthAll (HD.D.pys (xs.map HD.D.int)) = 0
  | [] => ⟨by simp [HD.D.pys, PyData.canLayAll0], by simp [HD.D.pys, PyData.depthAll]⟩
  | x :: xs => by
    obtain ⟨a, b⟩ := lay_ints xs
    rw [List.map_cons, HD.D.pys, PyData.canLayAll0, PyData.depthAll, a, b]
    simp [HD.D.py, PyData.canLay0, PyData.depth]
theorem row_cmp (xs : List Int) : HD.D.cmp (.lst (xs.map HD.D.int)) (.lst (xs.map HD.D.int)) ∧ HD.D.eqv (.lst (xs.map HD.D.int)) (.lst (xs.map HD.D.int)) = true := by
  have e : (HD.D.lst (xs.map HD.D.int)).py = .list (HD.D.pys (xs.map HD.D.int)) := by rw [HD.D.py]
  have d : (HD.D.lst (xs.map HD.D.int)).dat = true := by rw [HD.D.dat]; exact dats_ints xs
  have sh : SeqAt.shaped (HD.D.lst (xs.map HD.D.int)).py = true := by
    obtain ⟨a, b⟩ := lay_ints xs
    rw [e, SeqAt.shaped, PyData.canLay0, PyData.depth, a, b]; rfl
  refine ⟨⟨d, d, sh, sh⟩, ?_⟩
  rw [HD.D.eqv, e, PyData.eqv]
  exact eqv_ints xs
theorem eqv_t1 (p : Int) : HD.D.eqv (.tup [.int p]) (.tup [.int p]) = true := by simp [HD.D.eqv, HD.D.py, HD.D.pys, PyData.eqv, PyData.eqvAll]
theorem str_ok (s : String) : PyData.strOk (Str.ofString s) = true := by
  unfold PyData.strOk
  rw [← Array.all_toList, signs_ofString, List.all_eq_true]
  intro n hn
  obtain ⟨c, _, rfl⟩ := List.mem_map.mp hn
  refine decide_eq_true ?_
  rcases c.valid with h | h
  · exact Nat.lt_trans h (by decide)
  · exact h.2
theorem cmp_right {w w' : Str} {v : Int} {d : HD.D} (hw : PyData.strOk w = true) (hw' : PyData.strOk w' = true) (h : Val d) : HD.D.cmp (.tup [.str w', d]) (.tup [.str w, .int v]) := by
  cases h with
  | str z hz => refine ⟨rfl, rfl, ?_, ?_⟩ <;> simp [SeqAt.shaped, HD.D.py, HD.D.pys, PyData.canLay0, PyData.canLayAll0, PyData.depth, PyData.depthAll, hw, hw', hz]
  | _ => refine ⟨rfl, rfl, ?_, ?_⟩ <;> simp [SeqAt.shaped, HD.D.py, HD.D.pys, PyData.canLay0, PyData.canLayAll0, PyData.depth, PyData.depthAll, hw, hw']
theorem val_cons {d : HD.D} {ds : List HD.D} (h : Val d) (h2 : ∀ e ∈ ds, Val e) : ∀ e ∈ d :: ds, Val e := fun e he => by
  rcases List.mem_cons.mp he with rfl | he
  · exact h
  · exact h2 e he
theorem val_nil : ∀ e ∈ ([] : List HD.D), Val e := fun e he => by cases he
theorem shown_by {T : Tx P K mg} {xs : List Int} {b : Bool} {v : Int} {w : Str} {d : HD.D} {fs : List (Str × HD.D)} (br : ∀ i : Int, (isWi (.int i) (some (-80)) (some 80) && byR xs (.int i)) = decide (b = true ∧ i = v)) (hw : ("bypower" = w) ↔ b = true) (hd : Val d) (hf : fs.lookup ("power" : Str) = some d.fix) : Shown T xs (.ins T.C_ByPower fs) (rightB w "bypower" v d) := by
  have s := fun h => Shown.byp (T := T) (xs := xs) hf h
  cases hd with
  | int i =>
    have := s rfl
    rw [show (HD.D.int i).fix = .int i from rfl, br i] at this
    rw [show rightB w "bypower" v (.int i) = decide (b = true ∧ i = v) from by
      simp only [rightB]
      rw [Bool.eq_iff_iff, Bool.and_eq_true, decide_eq_true_iff, decide_eq_true_iff, decide_eq_true_iff, hw]]
    exact this
  | non => exact s rfl
  | yes => exact s rfl
  | str z hz => exact s rfl
  | lst => exact s rfl
theorem shown_un {T : Tx P K mg} {xs : List Int} {b : Bool} {v : Int} {w : Str} {d : HD.D} {fs : List (Str × HD.D)} (ur : ∀ i : Int, (isWi (.int i) (some 0) (some ((xs.length : Int) - 3)) && unR xs (.int i)) = decide (b = false ∧ i = v)) (hw : ("uneven" = w) ↔ b = false) (hd : Val d) (hf : fs.lookup ("step" : Str) = some d.fix) : Shown T xs (.ins T.C_Uneven fs) (rightB w "uneven" v d) := by
  have s := fun h => Shown.une (T := T) (xs := xs) hf h
  cases hd with
  | int i =>
    have := s rfl
    rw [show (HD.D.int i).fix = .int i from rfl, ur i] at this
    rw [show rightB w "uneven" v (.int i) = decide (b = false ∧ i = v) from by
      simp only [rightB]
      rw [Bool.eq_iff_iff, Bool.and_eq_true, decide_eq_true_iff, decide_eq_true_iff, decide_eq_true_iff, hw]]
    exact this
  | non => exact s rfl
  | yes => exact s rfl
  | str z hz => exact s rfl
  | lst => exact s rfl
def sp_law (K : PySem.W.Frag) : Sp := fun vs H Q _ => ∃ (a : Addr) (ns : List Int), vs = [.ref a] ∧ SqL K H a (ns.map V.int) ∧ ns.length ≤ 63 ∧ ∀ H', Q (.bl true) H'
theorem ok_law (T : Tx P K mg) : HV.FnG P w K mg base 10 T.f_law T.fd_law ["script"] (sp_law K) := by
  refine HV.okG T.F_law sc_law (fun vs H Q E h => ?_) (fun cdv A outer s H vs Q E hgd hr h => ?_)
  · obtain ⟨s0, ns0, rfl, hS, hl, q⟩ := h; rfl
  obtain ⟨s0, ns0, rfl, hS, hl, q⟩ := h
  refine ⟨_, (pss_cons (ps_set (i := 1) sc_law.nd rfl (by first | exact .inl rfl | exact .inr rfl) (pe_call (ok__law_hat T) (hr.mono (by decide)) (by rfl) T.g__law_hat T.F__law_hat.kp T.b__law_hat .nil pass0 (pa_cons (pv 0) pa_nil)))
      (pss_cons (ps_for PassesOwn.never (by rfl) (pi_range1 (by rfl) T.z_range (pa_cons pe_int pa_nil)) (pg_name (i := 2) sc_law.nd rfl (by first | exact .inl rfl | exact .inr rfl)) (pss_cons (ps_asg (pe_call (ok__law_begun T) (hr.mono (by decide)) (by rfl) T.g__law_begun T.F__law_begun.kp T.b__law_begun .nil pass0 (pa_cons (pv 1) pa_nil)) (pg_tupK (K := K) 3 (by rfl) (pgs_cons (pg_name (i := 3) sc_law.nd rfl (by first | exact .inl rfl | exact .inr rfl)) (pgs_cons (pg_name (i := 4) sc_law.nd rfl (by first | exact .inl rfl | exact .inr rfl)) (pgs_cons (pg_name (i := 5) sc_law.nd rfl (by first | exact .inl rfl | exact .inr rfl)) pgs_nil)))))
      (pss_cons (ps_set (i := 6) sc_law.nd rfl (by first | exact .inl rfl | exact .inr rfl) (pe_op (op_addK (K := K)) pe_int (pe_call (ok__law_lot T) (hr.mono (by decide)) (by rfl) T.g__law_lot T.F__law_lot.kp T.b__law_lot .nil pass0 (pa_cons (pv 1) (pa_cons pe_int pa_nil)))))
      (pss_cons (ps_set (i := 7) sc_law.nd rfl (by first | exact .inl rfl | exact .inr rfl) (pe_call (ok_numbers_by T) (hr.mono (by decide)) (by rfl) T.g_numbers_by T.F_numbers_by.kp T.b_numbers_by .nil pass0 (pa_cons (pv 3) (pa_cons (pv 4) (pa_cons (pv 6) (pa_cons (pv 5) pa_nil))))))
      (pss_cons (ps_if (PW.pt (pw_or (pt_cmpR (op_neK (K := K) hr.units) (pe_callB (HU.call_reprD (K := K) hr.units hgd) (by rfl) T.z_repr (by decide +kernel) (pa_cons (pv 7) pa_nil)) (pe_callB (HU.call_reprD (K := K) hr.units hgd) (by rfl) T.z_repr (by decide +kernel) (pa_cons (pe_callTy (call_tupleK (K := K)) (by rfl) T.z_tuple (by decide +kernel) (pa_cons (pe_call (ok__law_gone_on T) (hr.mono (by decide)) (by rfl) T.g__law_gone_on T.F__law_gone_on.kp T.b__law_gone_on .nil pass0 (pa_cons (pv 3) (pa_cons (pv 4) (pa_cons (pv 6) (pa_cons (pv 5) pa_nil))))) pa_nil)) pa_nil)) (nomark _)) (pw_or1 (pt_cmpR (op_neK (K := K) hr.units) (pe_call (ok_numbers_by T) (hr.mono (by decide)) (by rfl) T.g_numbers_by T.F_numbers_by.kp T.b_numbers_by .nil pass0 (pa_cons (pv 3) (pa_cons (pv 4) (pa_cons pe_int (pa_cons (pv 5) pa_nil))))) (pe_tup (pa_cons (pv 3) (pa_cons (pv 4) pa_nil))) (nomark _))))) (pss_one (ps_ret pe_bl)) pss_nil)
      (pss_cons (ps_set (i := 7) sc_law.nd rfl (by first | exact .inl rfl | exact .inr rfl) (pe_call (ok__law_row T) (hr.mono (by decide)) (by rfl) T.g__law_row T.F__law_row.kp T.b__law_row .nil pass0 (pa_cons (pv 1) pa_nil)))
      (pss_cons (ps_par3 (i := 8) (j := 9) (l := 10) (by rfl) sc_law.nd rfl rfl rfl (by decide) (by decide) (by decide) rfl rfl rfl (pa_cons (pe_callTy (call_listK (K := K)) (by rfl) T.z_list (by decide +kernel) (pa_cons (pv 7) pa_nil)) (pa_cons (pe_call (ok__law_due T) (hr.mono (by decide)) (by rfl) T.g__law_due T.F__law_due.kp T.b__law_due .nil pass0 (pa_cons (pv 7) pa_nil)) (pa_cons (pe_call (ok_power_of_row T) (hr.mono (by decide)) (by rfl) T.g_power_of_row T.F_power_of_row.kp T.b_power_of_row .nil pass0 (pa_cons (pv 7) pa_nil)) pa_nil))) (by rfl))
      (pss_cons (ps_if (PW.pt (pw_or (pt_not (pt_val (pe_callB (HD.call_isiTU (K := K)) (by rfl) T.z_isinstance (by decide +kernel) (pa_cons (pv 10) (pa_cons (pe_tup (pa_cons (pe_glob (v := .ref T.C_ByPower) (by rfl) T.g_ByPower rfl) (pa_cons (pe_glob (v := .ref T.C_Uneven) (by rfl) T.g_Uneven rfl) pa_nil))) pa_nil))))) (pw_or (pt_cmpR (op_neK (K := K) hr.units) (HC.pe_fldK (K := K) (pv 10)) (pe_ix (ix_K (K := K)) (pv 9) pe_int (fun _ _ => rfl)) (nomark _)) (pw_or1 (pt_cmpR (op_neK (K := K) hr.units) (pe_callB (HU.call_reprD (K := K) hr.units hgd) (by rfl) T.z_repr (by decide +kernel) (pa_cons (pe_call (ok__law_told T) (hr.mono (by decide)) (by rfl) T.g__law_told T.F__law_told.kp T.b__law_told .nil pass0 (pa_cons (pv 10) pa_nil)) pa_nil)) (pe_callB (HU.call_reprD (K := K) hr.units hgd) (by rfl) T.z_repr (by decide +kernel) (pa_cons (pv 9) pa_nil)) (nomark _)))))) (pss_one (ps_ret pe_bl)) pss_nil)
      (pss_cons (ps_if (PW.pt (pw_or (pt_cmpR (op_neK (K := K) hr.units) (pe_callTy (CallR.or (HN.call_boolO (K := K) (okV_Paper_bool T) T.b_Paper_bool (hr.mono (by decide))) (HN.call_boolO (K := K) (okV_Denial_bool T) T.b_Denial_bool (hr.mono (by decide)))) (by rfl) T.z_bool (by decide +kernel) (pa_cons (pv 10) pa_nil)) (pe_callB (call_isiK' (K := K)) (by rfl) T.z_isinstance (by decide +kernel) (pa_cons (pv 10) (pa_cons (pe_glob (v := .ref T.C_ByPower) (by rfl) T.g_ByPower rfl) pa_nil))) (nomark _)) (pw_or (pt_cmpR HD.op_notU (pe_call (ok_shows_power_of_row T) (hr.mono (by decide)) (by rfl) T.g_shows_power_of_row T.F_shows_power_of_row.kp T.b_shows_power_of_row .nil pass0 (pa_cons (pv 7) (pa_cons (pv 10) pa_nil))) pe_bl (nomark _)) (pw_or1 (pt_cmpR (op_neK (K := K) hr.units) (pv 7) (pv 8) (nomark _)))))) (pss_one (ps_ret pe_bl)) pss_nil)
      (pss_cons (ps_if (PW.pt (pw_or (pt_cmpR (HP.op_neO (K := K) (ok_Paper_eq T) T.b_Paper_eq (hr.mono (by decide))) (HB.pe_callK0 (ok_power_of_row T) (hr.mono (by decide)) (by rfl) T.g_power_of_row T.F_power_of_row.kp T.kb_power_of_row_numbers pass0 (pk_cons (pe_callTy (call_tupleK (K := K)) (by rfl) T.z_tuple (by decide +kernel) (pa_cons (pv 7) pa_nil)) pk_nil)) (pv 10) (nomark _)) (pw_or1 (pt_cmpR HD.op_notU (HB.pe_callK0 (ok_shows_power_of_row T) (hr.mono (by decide)) (by rfl) T.g_shows_power_of_row T.F_shows_power_of_row.kp T.kb_shows_power_of_row_value_numbers pass0 (pk_cons (pv 10) (pk_cons (pe_callTy (call_tupleK (K := K)) (by rfl) T.z_tuple (by decide +kernel) (pa_cons (pv 7) pa_nil)) pk_nil))) pe_bl (nomark _))))) (pss_one (ps_ret pe_bl)) pss_nil)
      (pss_cons (ps_set (i := 11) sc_law.nd rfl (by first | exact .inl rfl | exact .inr rfl) (pe_lst (pa_cons (pe_ix (ix_K (K := K)) (pv 9) pe_int (fun _ _ => rfl)) (pa_cons (pe_op (op_addK (K := K)) (pe_ix (ix_K (K := K)) (pv 9) pe_int (fun _ _ => rfl)) pe_int) (pa_cons (pe_op op_sub (pe_ix (ix_K (K := K)) (pv 9) pe_int (fun _ _ => rfl)) pe_int) (pa_cons pe_int (pa_cons pe_int (pa_cons (pe_op op_sub (pe_callB (call_lenK (K := K)) (by rfl) T.z_len (by decide +kernel) (pa_cons (pv 7) pa_nil)) pe_int) (pa_cons (pe_op op_sub (pe_callB (call_lenK (K := K)) (by rfl) T.z_len (by decide +kernel) (pa_cons (pv 7) pa_nil)) pe_int) (pa_cons pe_non (pa_cons pe_bl (pa_cons (pe_callTy call_str_int (by rfl) T.z_str (by decide +kernel) (pa_cons (pe_ix (ix_K (K := K)) (pv 9) pe_int (fun _ _ => rfl)) pa_nil)) (pa_cons (pe_op op_pow pe_int pe_int) (pa_cons (pe_un un_neg pe_int) (pa_cons (pe_lst (pa_cons pe_int pa_nil)) pa_nil)))))))))))))))
      (pss_cons (ps_for PassesOwn.never (by rfl) (pi_range1 (by rfl) T.z_range (pa_cons pe_int pa_nil)) (pg_name (i := 12) sc_law.nd rfl (by first | exact .inl rfl | exact .inr rfl)) (pss_cons (ps_par (i := 13) (j := 14) (by rfl) sc_law.nd rfl rfl (by decide) rfl rfl (pa_cons (pe_call (ok__law_one T) (hr.mono (by decide)) (by rfl) T.g__law_one T.F__law_one.kp T.b__law_one .nil pass0 (pa_cons (pv 1) (pa_cons (pv 11) pa_nil))) (pa_cons (pe_cmpR (op_eqK (K := K) hr.units) (pe_call (ok__law_lot T) (hr.mono (by decide)) (by rfl) T.g__law_lot T.F__law_lot.kp T.b__law_lot .nil pass0 (pa_cons (pv 1) (pa_cons pe_int pa_nil))) pe_int (nomark _)) pa_nil)) (by rfl))
      (pss_cons (ps_set (i := 15) sc_law.nd rfl (by first | exact .inl rfl | exact .inr rfl) (pe_and (pe_not (pe_callB (call_isiK' (K := K)) (by rfl) T.z_isinstance (by decide +kernel) (pa_cons (pv 13) (pa_cons (pe_bltn (v := .ty "bool") (by rfl) T.z_bool (by decide +kernel) rfl) pa_nil)))) (pe_one (pe_cmpR (op_eqK (K := K) hr.units) (pe_tup (pa_cons (pe_ifExp (pt_val (pv 14)) pe_str pe_str) (pa_cons (pv 13) pa_nil))) (pv 9) (nomark _)))))
      (pss_one (ps_if (pt_cmpR (op_neK (K := K) hr.units) (pe_call (ok_shows_power_of_row T) (hr.mono (by decide)) (by rfl) T.g_shows_power_of_row T.F_shows_power_of_row.kp T.b_shows_power_of_row .nil pass0 (pa_cons (pv 7) (pa_cons (pe_ifExp (pt_val (pv 14)) (StX.pe_makeR T.mk_Uneven (ok_Uneven_init T) (hr.mono (by decide)) (by rfl) T.g_Uneven pass0 (pa_cons (pv 13) pa_nil)) (StX.pe_makeR T.mk_ByPower (ok_ByPower_init T) (hr.mono (by decide)) (by rfl) T.g_ByPower pass0 (pa_cons (pv 13) pa_nil))) pa_nil))) (pv 15) (nomark _)) (pss_one (ps_ret pe_bl)) pss_nil)))))
      (pss_cons (ps_set (i := 16) sc_law.nd rfl (by first | exact .inl rfl | exact .inr rfl) (pe_lst (pa_cons pe_non (pa_cons (pe_ix (ix_K (K := K)) (pv 9) pe_int (fun _ _ => rfl)) (pa_cons (pv 9) (pa_cons pe_str (pa_cons (StX.pe_makeR T.mk_Between (ok_Between_init T) (hr.mono (by decide)) (by rfl) T.g_Between pass0 (pa_cons (pe_ix (ix_K (K := K)) (pv 9) pe_int (fun _ _ => rfl)) pa_nil)) (pa_cons (StX.pe_makeR T.mk_Paper (okC_Paper_init T T.pc_Paper) (hr.mono (by decide)) (by rfl) T.g_Paper pass0 (pa_cons pe_str (pa_cons (pe_ix (ix_K (K := K)) (pv 9) pe_int (fun _ _ => rfl)) pa_nil))) (pa_cons (StX.pe_makeR T.mk_Denial (okC_Paper_init T T.pc_Denial) (hr.mono (by decide)) (by rfl) T.g_Denial pass0 (pa_cons pe_str (pa_cons (pe_ix (ix_K (K := K)) (pv 9) pe_int (fun _ _ => rfl)) pa_nil))) (pa_cons (HC.pe_fldK (K := K) (pv 10)) pa_nil))))))))))
      (pss_one (ps_if (pt_cmpR HD.op_notU (pe_call (ok_shows_power_of_row T) (hr.mono (by decide)) (by rfl) T.g_shows_power_of_row T.F_shows_power_of_row.kp T.b_shows_power_of_row .nil pass0 (pa_cons (pv 7) (pa_cons (pe_call (ok__law_one T) (hr.mono (by decide)) (by rfl) T.g__law_one T.F__law_one.kp T.b__law_one .nil pass0 (pa_cons (pv 1) (pa_cons (pv 16) pa_nil))) pa_nil))) pe_bl (nomark _)) (pss_one (ps_ret pe_bl)) pss_nil)))))))))))))))
      (pss_one (ps_ret pe_bl)))), ?_⟩
  refine HX.start_ (σ := [some (.ref s0 : V), none, none, none, none, none, none, none, none, none, none, none, none, none, none, none, none]) rfl ?_
  fail "hr"
  refine ⟨s0, ns0, rfl, hS, hl, fun g k ns H0 e0 hg hh0 => ?_⟩
  with_reducible refine HX.gnS_ ?_
  with_reducible refine HX.gn0_ ?_
  refine' HD.begin (K := K) (m := 15) (D := ⟨fun _ _ => False, fun it _ => it = .v (.bl true), fun _ _ => False, fun _ _ => False⟩) hh0 ?len ?main ?ret (fun _ _ z => z) (fun _ _ z => z) (fun _ _ z => z)
  case len => rfl
  case ret =>
    rintro v H ⟨it, n, e, cx, r⟩
    subst e
    cases (show HD.R K cx.g cx.M0 H v (.bl true) from r)
    exact q H
  dsimp only [List.replicate]
  fail "dr"
  refine HD.ForD.inv (fun i ρ n => n ≤ i * 80 ∧ ∃ x0 x2 x3 x4 x5 x6 x7 x8 x9 x10 x11 x12 x13 x14 x15 x16, ρ = [x0, .v .hat, x2, x3, x4, x5, x6, x7, x8, x9, x10, x11, x12, x13, x14, x15, x16]) ⟨by omega, _, _, _, _, _, _, _, _, _, _, _, _, _, _, _, _, rfl⟩ (fun i x ρ n hx hi hP => ?_) (fun ρ n hP => ?_)
  case refine_2 =>
    obtain ⟨_, x0, x2, x3, x4, x5, x6, x7, x8, x9, x10, x11, x12, x13, x14, x15, x16, rfl⟩ := hP
    fail "dr"
  obtain ⟨hn, x0, x2, x3, x4, x5, x6, x7, x8, x9, x10, x11, x12, x13, x14, x15, x16, rfl⟩ := hP
  obtain ⟨hi, rfl⟩ := HD.rngD_at hx
  have hi2 : i < 3 := hi
  generalize ei : i = i' at hn hi2 ⊢
  fail "dr"
  refine use_begun (by omega) fun x y p m hx hy hp hm => ?_
  fail "dr"
  intro u u0 u1
  fail "dr"
  refine use_numbers_by ⟨hx, hy, ⟨by omega, by omega⟩, hp⟩ ?_
  have hg : ∀ z ∈ goneL x y (2 + u) p, 1 ≤ z ∧ z < 2 ^ 80 := fun z hz => by
    have e99 : (99 : Int) < 2 ^ 80 := by decide
    rcases List.mem_cons.mp hz with rfl | hz
    · exact ⟨hx.1, by omega⟩
    rcases List.mem_cons.mp hz with rfl | hz
    · exact ⟨hy.1, by omega⟩
    exact gone_all hx hy hp _ 0 x y (Two.begin hx hy) (by omega) z hz
  have hgl : (goneL x y (2 + u) p).length ≤ 14 := by
    have := gone_len p ((2 + u).toNat - 2) x y
    unfold goneL
    simp only [List.length_cons]
    omega
  obtain ⟨g1, g2, g3, g4, g5⟩ := shows_tup (ShI.row hg) (by rw [List.length_map]; omega)
  fail "dr"
  refine HU.repr_ g1 rfl g2 g3 g4 g5 ?_
  fail "dr"
  refine HU.repr_ g1 rfl g2 g3 g4 g5 ?_
  clear g1 g2 g3 g4 g5 hg hgl
  fail "dr"
  refine HX.iteF_ (HU.nd_ rfl) ?_
  fail "dr"
  refine use_numbers_by ⟨hx, hy, ⟨by omega, by omega⟩, hp⟩ ?_
  rw [show goneL x y 2 p = [x, y] from rfl]
  fail "dr"
  refine HD.neD_ ⟨rfl, rfl, rfl, rfl⟩ ?_
  rw [show (HD.I.v (HD.D.tup [.int x, .int y])).val.eqv (HD.I.v (HD.D.tup [.int x, .int y])).val = true from eqv_two]
  fail "dr"
  refine use_row (by omega) fun xs m2 hrow hm2 => ?_
  fail "dr"
  refine use_due hrow fun r hr => ?_
  fail "dr"
  refine use_power_of_row (b := true) hrow fun r2 hr2 => ?_
  obtain rfl := hr.uniq hr2
  clear hr2
  obtain ⟨b, v⟩ := r
  have hv := rr_bd hrow hr
  have rc := row_cmp xs
  have br := by_right hrow hr
  have ur := un_right hrow hr
  obtain ⟨hl1, hl2⟩ := hrow.len
  have se : ∀ d ∈ [HD.D.str (if b = true then "bypower" else "uneven"), .int v], ShI d := fun d hd => by
    simp only [List.mem_cons, List.mem_nil_iff, or_false] at hd
    rcases hd with rfl | rfl
    · cases b
      · exact .inr (.inr rfl)
      · exact .inr (.inl rfl)
    · exact .inl ⟨v, rfl, Nat.lt_of_le_of_lt (Nat.log2_le_self _) (by omega)⟩
  obtain ⟨s1, s2, s3, s4, s5⟩ := shows_tup se (by show 2 ≤ 1000; omega)
  have ht : ∀ (n : Nat) (Q : HD.I → Nat → Prop) (E : HD.XD), Q (.v (dueD (b, v))) n → spd__law_told T [rowP T (b, v)] n Q E := fun n Q E q => use_told q
  have hp2 : ∀ (bb : Bool) (n : Nat) (Q : HD.I → Nat → Prop) (E : HD.XD), Q (.o (rowP T (b, v))) n → spd_power_of_row T [sq bb xs] n Q E := fun bb n Q E q => use_power_of_row hrow fun r2 hr2 => by rw [← hr.uniq hr2]; exact q
  clear hr
  clear se
  cases b with
  | true =>
    simp only [dueD, rowP, if_true] at s1 s2 s3 s4 s5 ht hp2 ⊢
    fail "dr"
    refine HD.isiTO_ (it := .b 10 (.ins T.C_ByPower [("word", .str "bypower"), ("parts", .tup [.int v]), ("power", .int v)])) rfl T.pc_ByPower rfl (HC.kitAny_two T.is_ByPower_ByPower T.is_ByPower_Uneven) ?_
    fail "dr"
    refine ht _ _ _ ?_
    fail "dr"
    refine HU.repr_ s1 rfl s2 s3 s4 s5 ?_
    fail "dr"
    refine HU.repr_ s1 rfl s2 s3 s4 s5 ?_
    fail "dr"
    refine HX.iteF_ (HU.nd_ rfl) ?_
    fail "dr"
    refine HN.boolP_ rfl (.inl ⟨T.bc_ByPower, rfl⟩) ?_
    fail "dr"
    have sf : Shown T xs (.ins T.C_ByPower [("word", .str "bypower"), ("parts", .tup [.int v]), ("power", .int v)]) true := by
      have := Shown.byp (T := T) (xs := xs) (fs := [("word", .str "bypower"), ("parts", .tup [.int v]), ("power", .int v)]) (d := .int v) rfl rfl
      rw [br v, decide_eq_true ⟨rfl, rfl⟩] at this
      exact this
    refine use_shows (b := true) hrow sf ?_
    fail "dr"
    refine HD.neD_ rc.1 ?_
    rw [show (HD.I.v (.lst (xs.map HD.D.int))).val.eqv (HD.I.b 8 (.lst (xs.map HD.D.int))).val = true from rc.2]
    fail "dr"
    refine HD.callK_ ?_
    fail "dr"
    refine hp2 false _ _ _ ?_
    fail "dr"
    refine HD.eqO_ (C := T.C_ByPower) (E := T.C_ByPower) rfl rfl T.eq_ByPower_ByPower ?_
    refine ⟨_, _, _, _, _, _, _, _, _, _, rfl, ⟨T.pc_ByPower, rfl, rfl⟩, ⟨T.pc_ByPower, rfl, rfl⟩, ⟨rfl, rfl, rfl, rfl⟩, ?_⟩
    rw [eqv_t1, decide_eq_true rfl, decide_eq_true rfl]
    fail "dr"
    refine HD.callK_ ?_
    fail "dr"
    refine use_shows (b := false) hrow sf ?_
    fail "dr"
    refine HD.reprI_ (Nat.lt_of_le_of_lt (Nat.log2_le_self _) (by omega)) ?_
    fail "dr"
    refine HD.ForD.inv (fun j ρ n' => n' ≤ m2 + 2 * j ∧ ∃ L s11 s12 s13 s14 s15, (∀ e ∈ L, Val e) ∧ L.length = 13 ∧ (s11 = .ow (.lst L) ∨ s11 = .v (.lst L)) ∧ ρ = [x0, .v .hat, .v (.int (0 + (i' : Int))), .v (.int x), .v (.int y), .v (.int p), .v (.int (2 + u)), .v (.lst (xs.map HD.D.int)), .ow (.lst (xs.map HD.D.int)), .v (.tup [.str "bypower", .int v]), .v (.ins T.C_ByPower [("word", .str "bypower"), ("parts", .tup [.int v]), ("power", .int v)]), s11, s12, s13, s14, s15, x16]) ⟨Nat.le_refl _, _, _, _, _, _, _, by repeat (first | exact val_nil | refine val_cons ?_ ?_ | exact .int _ | exact .non | exact .yes | exact .str _ (str_ok _) | exact .lst), rfl, .inl rfl, rfl⟩ (fun j d ρ n hd hj hP => ?_) (fun ρ n hP => ?_)
    case refine_1 =>
      obtain ⟨hn3, L, s11, s12, s13, s14, s15, hL, hL2, hs, rfl⟩ := hP
      obtain ⟨hj, rfl⟩ := HD.rngD_at hd
      have hj4 : j < 4 := hj
      rcases hs with rfl | rfl
      all_goals
        fail "dr"
        refine HD.use_one rfl (by omega) ⟨by omega, by omega⟩ fun d hd => ?_
        have hd := hL d hd
        fail "dr"
        intro t t0 t1
        fail "dr"
        by_cases ht0 : t = 0
        case' pos => rw [decide_eq_true ht0]
        case' neg => rw [decide_eq_false ht0]
        case pos =>
          clear ht0 t0 t1
          have hd2 := hd
          cases hd
          all_goals
            fail "dr"
            try
              refine HD.eqD_ (cmp_right (str_ok _) (str_ok _) hd2) ?_
              rw [show (HD.I.v _).val.eqv (HD.I.v _).val = _ from eqv_right (w := "bypower") (w' := "uneven") hd2 (by intro z; cases z)]
              fail "dr"
            refine use_Uneven_init rfl ?_
            fail "dr"
            refine use_shows (b := true) hrow (shown_un ur (w := "bypower") (⟨fun z => absurd z (by decide), fun z => by cases z⟩) hd2 rfl) ?_
            fail "dr"
            first
              | exact ⟨by omega, L, _, _, _, _, _, hL, hL2, .inr rfl, rfl⟩
              | (refine HX.iteF_ (by simp) ?_
                 fail "dr"
                 exact ⟨by omega, L, _, _, _, _, _, hL, hL2, .inr rfl, rfl⟩)
        case neg =>
          clear ht0 t0 t1
          have hd2 := hd
          cases hd
          all_goals
            fail "dr"
            try
              refine HD.eqD_ (cmp_right (str_ok _) (str_ok _) hd2) ?_
              rw [show (HD.I.v _).val.eqv (HD.I.v _).val = _ from eqv_right (w := "bypower") (w' := "bypower") hd2 (by intro z; cases z)]
              fail "dr"
            refine use_ByPower_init rfl ?_
            fail "dr"
            refine use_shows (b := true) hrow (shown_by br (w := "bypower") (⟨fun _ => rfl, fun _ => rfl⟩) hd2 rfl) ?_
            fail "dr"
            first
              | exact ⟨by omega, L, _, _, _, _, _, hL, hL2, .inr rfl, rfl⟩
              | (refine HX.iteF_ (by simp) ?_
                 fail "dr"
                 exact ⟨by omega, L, _, _, _, _, _, hL, hL2, .inr rfl, rfl⟩)
    case refine_2 =>
      obtain ⟨hn3, L, s11, s12, s13, s14, s15, hL, hL2, hs, rfl⟩ := hP
      rw [HD.rngD_len] at hn3
      have h4 : (Int.toNat 4) = 4 := rfl
      rw [h4] at hn3
      clear hs hL hL2
      fail "dr"
      refine use_Between_init rfl ?_
      fail "dr"
      refine ⟨_, _, rfl, rfl, ?_⟩
      fail "dr"
      refine ⟨_, _, rfl, rfl, ?_⟩
      fail "dr"
      refine HD.use_one rfl (by omega) ⟨by show 0 < 8; omega, by show 8 ≤ 1000; omega⟩ fun d hd => ?_
      have hs : Shown T xs d false := by
        simp only [List.mem_cons, List.mem_nil_iff, or_false] at hd
        rcases hd with rfl | rfl | rfl | rfl | rfl | rfl | rfl | rfl
        · exact .built rfl
        · exact .built rfl
        · exact .built rfl
        · exact .built rfl
        · exact .btw
        · exact .pap
        · exact .den
        · exact .built rfl
      clear hd
      fail "dr"
      refine use_shows (b := true) hrow hs ?_
      fail "dr"
      exact ⟨by omega, _, _, _, _, _, _, _, _, _, _, _, _, _, _, _, _, rfl⟩
  | false =>
    simp only [dueD, rowP, Bool.false_eq_true, if_false] at s1 s2 s3 s4 s5 ht hp2 ⊢
    fail "dr"
    refine HD.isiTO_ (it := .b 10 (.ins T.C_Uneven [("word", .str "uneven"), ("parts", .tup [.int v]), ("step", .int v)])) rfl T.pc_Uneven rfl (HC.kitAny_two T.is_Uneven_ByPower T.is_Uneven_Uneven) ?_
    fail "dr"
    refine ht _ _ _ ?_
    fail "dr"
    refine HU.repr_ s1 rfl s2 s3 s4 s5 ?_
    fail "dr"
    refine HU.repr_ s1 rfl s2 s3 s4 s5 ?_
    fail "dr"
    refine HX.iteF_ (HU.nd_ rfl) ?_
    fail "dr"
    refine HN.boolP_ rfl (.inr ⟨T.bc_Uneven, rfl⟩) ?_
    fail "dr"
    have sf : Shown T xs (.ins T.C_Uneven [("word", .str "uneven"), ("parts", .tup [.int v]), ("step", .int v)]) true := by
      have := Shown.une (T := T) (xs := xs) (fs := [("word", .str "uneven"), ("parts", .tup [.int v]), ("step", .int v)]) (d := .int v) rfl rfl
      rw [ur v, decide_eq_true ⟨rfl, rfl⟩] at this
      exact this
    refine use_shows (b := true) hrow sf ?_
    fail "dr"
    refine HD.neD_ rc.1 ?_
    rw [show (HD.I.v (.lst (xs.map HD.D.int))).val.eqv (HD.I.b 8 (.lst (xs.map HD.D.int))).val = true from rc.2]
    fail "dr"
    refine HD.callK_ ?_
    fail "dr"
    refine hp2 false _ _ _ ?_
    fail "dr"
    refine HD.eqO_ (C := T.C_Uneven) (E := T.C_Uneven) rfl rfl T.eq_Uneven_Uneven ?_
    refine ⟨_, _, _, _, _, _, _, _, _, _, rfl, ⟨T.pc_Uneven, rfl, rfl⟩, ⟨T.pc_Uneven, rfl, rfl⟩, ⟨rfl, rfl, rfl, rfl⟩, ?_⟩
    rw [eqv_t1, decide_eq_true rfl, decide_eq_true rfl]
    fail "dr"
    refine HD.callK_ ?_
    fail "dr"
    refine use_shows (b := false) hrow sf ?_
    fail "dr"
    refine HD.reprI_ (Nat.lt_of_le_of_lt (Nat.log2_le_self _) (by omega)) ?_
    fail "dr"
    refine HD.ForD.inv (fun j ρ n' => n' ≤ m2 + 2 * j ∧ ∃ L s11 s12 s13 s14 s15, (∀ e ∈ L, Val e) ∧ L.length = 13 ∧ (s11 = .ow (.lst L) ∨ s11 = .v (.lst L)) ∧ ρ = [x0, .v .hat, .v (.int (0 + (i' : Int))), .v (.int x), .v (.int y), .v (.int p), .v (.int (2 + u)), .v (.lst (xs.map HD.D.int)), .ow (.lst (xs.map HD.D.int)), .v (.tup [.str "uneven", .int v]), .v (.ins T.C_Uneven [("word", .str "uneven"), ("parts", .tup [.int v]), ("step", .int v)]), s11, s12, s13, s14, s15, x16]) ⟨Nat.le_refl _, _, _, _, _, _, _, by repeat (first | exact val_nil | refine val_cons ?_ ?_ | exact .int _ | exact .non | exact .yes | exact .str _ (str_ok _) | exact .lst), rfl, .inl rfl, rfl⟩ (fun j d ρ n hd hj hP => ?_) (fun ρ n hP => ?_)
    case refine_1 =>
      obtain ⟨hn3, L, s11, s12, s13, s14, s15, hL, hL2, hs, rfl⟩ := hP
      obtain ⟨hj, rfl⟩ := HD.rngD_at hd
      have hj4 : j < 4 := hj
      rcases hs with rfl | rfl
      all_goals
        fail "dr"
        refine HD.use_one rfl (by omega) ⟨by omega, by omega⟩ fun d hd => ?_
        have hd := hL d hd
        fail "dr"
        intro t t0 t1
        fail "dr"
        by_cases ht0 : t = 0
        case' pos => rw [decide_eq_true ht0]
        case' neg => rw [decide_eq_false ht0]
        case pos =>
          clear ht0 t0 t1
          have hd2 := hd
          cases hd
          all_goals
            fail "dr"
            try
              refine HD.eqD_ (cmp_right (str_ok _) (str_ok _) hd2) ?_
              rw [show (HD.I.v _).val.eqv (HD.I.v _).val = _ from eqv_right (w := "uneven") (w' := "uneven") hd2 (by intro z; cases z)]
              fail "dr"
            refine use_Uneven_init rfl ?_
            fail "dr"
            refine use_shows (b := true) hrow (shown_un ur (w := "uneven") (⟨fun _ => rfl, fun _ => rfl⟩) hd2 rfl) ?_
            fail "dr"
            first
              | exact ⟨by omega, L, _, _, _, _, _, hL, hL2, .inr rfl, rfl⟩
              | (refine HX.iteF_ (by simp) ?_
                 fail "dr"
                 exact ⟨by omega, L, _, _, _, _, _, hL, hL2, .inr rfl, rfl⟩)
        case neg =>
          clear ht0 t0 t1
          have hd2 := hd
          cases hd
          all_goals
            fail "dr"
            try
              refine HD.eqD_ (cmp_right (str_ok _) (str_ok _) hd2) ?_
              rw [show (HD.I.v _).val.eqv (HD.I.v _).val = _ from eqv_right (w := "uneven") (w' := "bypower") hd2 (by intro z; cases z)]
              fail "dr"
            refine use_ByPower_init rfl ?_
            fail "dr"
            refine use_shows (b := true) hrow (shown_by br (w := "uneven") (⟨fun z => absurd z (by decide), fun z => by cases z⟩) hd2 rfl) ?_
            fail "dr"
            first
              | exact ⟨by omega, L, _, _, _, _, _, hL, hL2, .inr rfl, rfl⟩
              | (refine HX.iteF_ (by simp) ?_
                 fail "dr"
                 exact ⟨by omega, L, _, _, _, _, _, hL, hL2, .inr rfl, rfl⟩)
    case refine_2 =>
      obtain ⟨hn3, L, s11, s12, s13, s14, s15, hL, hL2, hs, rfl⟩ := hP
      rw [HD.rngD_len] at hn3
      have h4 : (Int.toNat 4) = 4 := rfl
      rw [h4] at hn3
      clear hs hL hL2
      fail "dr"
      refine use_Between_init rfl ?_
      fail "dr"
      refine ⟨_, _, rfl, rfl, ?_⟩
      fail "dr"
      refine ⟨_, _, rfl, rfl, ?_⟩
      fail "dr"
      refine HD.use_one rfl (by omega) ⟨by show 0 < 8; omega, by show 8 ≤ 1000; omega⟩ fun d hd => ?_
      have hs : Shown T xs d false := by
        simp only [List.mem_cons, List.mem_nil_iff, or_false] at hd
        rcases hd with rfl | rfl | rfl | rfl | rfl | rfl | rfl | rfl
        · exact .built rfl
        · exact .built rfl
        · exact .built rfl
        · exact .built rfl
        · exact .btw
        · exact .pap
        · exact .den
        · exact .built rfl
      clear hd
      fail "dr"
      refine use_shows (b := true) hrow hs ?_
      fail "dr"
      exact ⟨by omega, _, _, _, _, _, _, _, _, _, _, _, _, _, _, _, _, rfl⟩
end
theorem all_mk {l : PySem.W.OpenLaw} {w : World} {K : PySem.W.Frag} {h : Heap} {mg : Str → Option Value} {fa : Addr} (X : K.In h) (G : h.Ns mainGlobals mg) (hfa : mg "law" = some (.ref fa))
    {C_Paper : Addr} (a_Paper : PySem.W.nsIn K mainGlobals "Paper" = some (some (.ref C_Paper)))
    {C_Denial : Addr} (a_Denial : PySem.W.nsIn K mainGlobals "Denial" = some (some (.ref C_Denial)))
    {C_Whole : Addr} (a_Whole : PySem.W.nsIn K mainGlobals "Whole" = some (some (.ref C_Whole)))
    {C_NoWhole : Addr} (a_NoWhole : PySem.W.nsIn K mainGlobals "NoWhole" = some (some (.ref C_NoWhole)))
    {C_ByPower : Addr} (a_ByPower : PySem.W.nsIn K mainGlobals "ByPower" = some (some (.ref C_ByPower)))
    {C_Between : Addr} (a_Between : PySem.W.nsIn K mainGlobals "Between" = some (some (.ref C_Between)))
    {C_Uneven : Addr} (a_Uneven : PySem.W.nsIn K mainGlobals "Uneven" = some (some (.ref C_Uneven)))
    {od0 an0 : Option Addr} {sl0 : Array (Option Value)} {oc0 kV0 dc0 pm0 ct0 : Value} {f0 : Addr} {cd0 : Value} 
    (a0 : PySem.W.nsIn K mainGlobals "fixed" = some (some (.ref f0)))
    (l0 : K.lookup f0 = some ⟨oc0, od0, .func (PySem.W.fnOf "fixed" "fixed" (defArgs s_fixed) (defBody s_fixed) (defScope s_fixed) .none kV0 dc0 pm0 an0 cd0 ct0), sl0⟩)
    (c0 : PySem.W.codeIn K cd0 "fixed" = true)
    (k0 : PySem.W.keepIn K (.ref f0) = true)
    {od1 an1 : Option Addr} {sl1 : Array (Option Value)} {oc1 kV1 dc1 pm1 ct1 : Value} {f1 : Addr} {cd1 : Value} 
    (a1 : PySem.W.findIn K (.ref C_Paper) "__init__" = some (some (.ref f1)))
    (l1 : K.lookup f1 = some ⟨oc1, od1, .func (PySem.W.fnOf "__init__" "Paper.__init__" (defArgs s_Paper_init) (defBody s_Paper_init) (defScope s_Paper_init) .none kV1 dc1 pm1 an1 cd1 ct1), sl1⟩)
    (c1 : PySem.W.codeIn K cd1 "Paper.__init__" = true)
    {od2 an2 : Option Addr} {sl2 : Array (Option Value)} {oc2 kV2 dc2 pm2 ct2 : Value} {f2 : Addr} {cd2 : Value} 
    (a2 : PySem.W.findIn K (.ref C_Paper) "__bool__" = some (some (.ref f2)))
    (l2 : K.lookup f2 = some ⟨oc2, od2, .func (PySem.W.fnOf "__bool__" "Paper.__bool__" (defArgs s_Paper_bool) (defBody s_Paper_bool) (defScope s_Paper_bool) .none kV2 dc2 pm2 an2 cd2 ct2), sl2⟩)
    (c2 : PySem.W.codeIn K cd2 "Paper.__bool__" = true)
    (k2 : PySem.W.keepIn K (.ref f2) = true)
    {od3 an3 : Option Addr} {sl3 : Array (Option Value)} {oc3 kV3 dc3 pm3 ct3 : Value} {f3 : Addr} {cd3 : Value} 
    (a3 : PySem.W.findIn K (.ref C_Paper) "__eq__" = some (some (.ref f3)))
    (l3 : K.lookup f3 = some ⟨oc3, od3, .func (PySem.W.fnOf "__eq__" "Paper.__eq__" (defArgs s_Paper_eq) (defBody s_Paper_eq) (defScope s_Paper_eq) .none kV3 dc3 pm3 an3 cd3 ct3), sl3⟩)
    (c3 : PySem.W.codeIn K cd3 "Paper.__eq__" = true)
    (k3 : PySem.W.keepIn K (.ref f3) = true)
    {od4 an4 : Option Addr} {sl4 : Array (Option Value)} {oc4 kV4 dc4 pm4 ct4 : Value} {f4 : Addr} {cd4 : Value} 
    (a4 : PySem.W.findIn K (.ref C_Denial) "__bool__" = some (some (.ref f4)))
    (l4 : K.lookup f4 = some ⟨oc4, od4, .func (PySem.W.fnOf "__bool__" "Denial.__bool__" (defArgs s_Denial_bool) (defBody s_Denial_bool) (defScope s_Denial_bool) .none kV4 dc4 pm4 an4 cd4 ct4), sl4⟩)
    (c4 : PySem.W.codeIn K cd4 "Denial.__bool__" = true)
    (k4 : PySem.W.keepIn K (.ref f4) = true)
    {od5 an5 : Option Addr} {sl5 : Array (Option Value)} {oc5 kV5 dc5 pm5 ct5 : Value} {f5 : Addr} {cd5 : Value} 
    (a5 : PySem.W.nsIn K mainGlobals "is_integer" = some (some (.ref f5)))
    (l5 : K.lookup f5 = some ⟨oc5, od5, .func (PySem.W.fnOf "is_integer" "is_integer" (defArgs s_is_integer) (defBody s_is_integer) (defScope s_is_integer) .none kV5 dc5 pm5 an5 cd5 ct5), sl5⟩)
    (c5 : PySem.W.codeIn K cd5 "is_integer" = true)
    (k5 : PySem.W.keepIn K (.ref f5) = true)
    {od6 an6 : Option Addr} {sl6 : Array (Option Value)} {oc6 kV6 dc6 pm6 ct6 : Value} {f6 : Addr} {cd6 : Value} 
    (a6 : PySem.W.nsIn K mainGlobals "is_within" = some (some (.ref f6)))
    (l6 : K.lookup f6 = some ⟨oc6, od6, .func (PySem.W.fnOf "is_within" "is_within" (defArgs s_is_within) (defBody s_is_within) (defScope s_is_within) .none kV6 dc6 pm6 an6 cd6 ct6), sl6⟩)
    (c6 : PySem.W.codeIn K cd6 "is_within" = true)
    (k6 : PySem.W.keepIn K (.ref f6) = true)
    {od7 an7 : Option Addr} {sl7 : Array (Option Value)} {oc7 kV7 dc7 pm7 ct7 : Value} {f7 : Addr} {cd7 : Value} 
    (a7 : PySem.W.nsIn K mainGlobals "is_row" = some (some (.ref f7)))
    (l7 : K.lookup f7 = some ⟨oc7, od7, .func (PySem.W.fnOf "is_row" "is_row" (defArgs s_is_row) (defBody s_is_row) (defScope s_is_row) .none kV7 dc7 pm7 an7 cd7 ct7), sl7⟩)
    (c7 : PySem.W.codeIn K cd7 "is_row" = true)
    (k7 : PySem.W.keepIn K (.ref f7) = true)
    {od8 an8 : Option Addr} {sl8 : Array (Option Value)} {oc8 kV8 dc8 pm8 ct8 : Value} {f8 : Addr} 
    (a8 : PySem.W.findIn K (.ref C_Whole) "__init__" = some (some (.ref f8)))
    {cc8 ca8 : Addr} {xcl8 : Value} {xcd8 : Option Addr} {xvs8 : Array Value} {xcs8 : Array (Option Value)} {file8 : Str} {tf8 : Tok} {ycl8 : Value} {ycd8 : Option Addr} {ycs8 : Array (Option Value)} {cdD8 : ClassData} 
    (l8 : K.lookup f8 = some ⟨oc8, od8, .func (PySem.W.fnX "__init__" "Whole.__init__" (defArgs s_Whole_init) (defBody s_Whole_init) (defScope s_Whole_init) [("__class__", cc8)] .none kV8 dc8 pm8 an8 (.ref ca8) ct8), sl8⟩)
    (c8 : PySem.W.codeIn K (.ref ca8) "Whole.__init__" = true)
    (x8 : K.lookup ca8 = some ⟨xcl8, xcd8, .fields xvs8, xcs8⟩)
    (u8 : xvs8[2]? = some (.str file8 tf8))
    (v8 : ((l.prog.main.file : Str) == file8) = true)
    (y8 : K.lookup cc8 = some ⟨ycl8, ycd8, .cell (some (.ref C_Whole)), ycs8⟩)
    (w8 : PySem.W.clsIn K C_Whole = some cdD8)
    (z_super : PySem.W.nsIn K mainGlobals "super" = some none)
    (t_super : (l.prog.main.scope.names.lookup ("super" : Str)).isSome = false)
    {od9 an9 : Option Addr} {sl9 : Array (Option Value)} {oc9 kV9 dc9 pm9 ct9 : Value} {f9 : Addr} 
    (a9 : PySem.W.findIn K (.ref C_NoWhole) "__init__" = some (some (.ref f9)))
    {cc9 ca9 : Addr} {xcl9 : Value} {xcd9 : Option Addr} {xvs9 : Array Value} {xcs9 : Array (Option Value)} {file9 : Str} {tf9 : Tok} {ycl9 : Value} {ycd9 : Option Addr} {ycs9 : Array (Option Value)} {cdD9 : ClassData} 
    (l9 : K.lookup f9 = some ⟨oc9, od9, .func (PySem.W.fnX "__init__" "NoWhole.__init__" (defArgs s_NoWhole_init) (defBody s_NoWhole_init) (defScope s_NoWhole_init) [("__class__", cc9)] .none kV9 dc9 pm9 an9 (.ref ca9) ct9), sl9⟩)
    (c9 : PySem.W.codeIn K (.ref ca9) "NoWhole.__init__" = true)
    (x9 : K.lookup ca9 = some ⟨xcl9, xcd9, .fields xvs9, xcs9⟩)
    (u9 : xvs9[2]? = some (.str file9 tf9))
    (v9 : ((l.prog.main.file : Str) == file9) = true)
    (y9 : K.lookup cc9 = some ⟨ycl9, ycd9, .cell (some (.ref C_NoWhole)), ycs9⟩)
    (w9 : PySem.W.clsIn K C_NoWhole = some cdD9)
    {od10 an10 : Option Addr} {sl10 : Array (Option Value)} {oc10 kV10 dc10 pm10 ct10 : Value} {f10 : Addr} {cd10 : Value} 
    (a10 : PySem.W.nsIn K mainGlobals "need_number" = some (some (.ref f10)))
    (l10 : K.lookup f10 = some ⟨oc10, od10, .func (PySem.W.fnOf "need_number" "need_number" (defArgs s_need_number) (defBody s_need_number) (defScope s_need_number) .none kV10 dc10 pm10 an10 cd10 ct10), sl10⟩)
    (c10 : PySem.W.codeIn K cd10 "need_number" = true)
    (k10 : PySem.W.keepIn K (.ref f10) = true)
    {od11 an11 : Option Addr} {sl11 : Array (Option Value)} {oc11 kV11 dc11 pm11 ct11 : Value} {f11 : Addr} {cd11 : Value} 
    (a11 : PySem.W.nsIn K mainGlobals "need_power" = some (some (.ref f11)))
    (l11 : K.lookup f11 = some ⟨oc11, od11, .func (PySem.W.fnOf "need_power" "need_power" (defArgs s_need_power) (defBody s_need_power) (defScope s_need_power) .none kV11 dc11 pm11 an11 cd11 ct11), sl11⟩)
    (c11 : PySem.W.codeIn K cd11 "need_power" = true)
    (k11 : PySem.W.keepIn K (.ref f11) = true)
    {od12 an12 : Option Addr} {sl12 : Array (Option Value)} {oc12 kV12 dc12 pm12 ct12 : Value} {f12 : Addr} {cd12 : Value} 
    (a12 : PySem.W.nsIn K mainGlobals "raised" = some (some (.ref f12)))
    (l12 : K.lookup f12 = some ⟨oc12, od12, .func (PySem.W.fnOf "raised" "raised" (defArgs s_raised) (defBody s_raised) (defScope s_raised) .none kV12 dc12 pm12 an12 cd12 ct12), sl12⟩)
    (c12 : PySem.W.codeIn K cd12 "raised" = true)
    (k12 : PySem.W.keepIn K (.ref f12) = true)
    {od13 an13 : Option Addr} {sl13 : Array (Option Value)} {oc13 kV13 dc13 pm13 ct13 : Value} {f13 : Addr} {cd13 : Value} 
    (a13 : PySem.W.nsIn K mainGlobals "lifted" = some (some (.ref f13)))
    (l13 : K.lookup f13 = some ⟨oc13, od13, .func (PySem.W.fnOf "lifted" "lifted" (defArgs s_lifted) (defBody s_lifted) (defScope s_lifted) .none kV13 dc13 pm13 an13 cd13 ct13), sl13⟩)
    (c13 : PySem.W.codeIn K cd13 "lifted" = true)
    (k13 : PySem.W.keepIn K (.ref f13) = true)
    {od14 an14 : Option Addr} {sl14 : Array (Option Value)} {oc14 kV14 dc14 pm14 ct14 : Value} {f14 : Addr} {cd14 : Value} 
    (a14 : PySem.W.nsIn K mainGlobals "sum_at" = some (some (.ref f14)))
    (l14 : K.lookup f14 = some ⟨oc14, od14, .func (PySem.W.fnOf "sum_at" "sum_at" (defArgs s_sum_at) (defBody s_sum_at) (defScope s_sum_at) .none kV14 dc14 pm14 an14 cd14 ct14), sl14⟩)
    (c14 : PySem.W.codeIn K cd14 "sum_at" = true)
    (k14 : PySem.W.keepIn K (.ref f14) = true)
    {od15 an15 : Option Addr} {sl15 : Array (Option Value)} {oc15 kV15 dc15 pm15 ct15 : Value} {f15 : Addr} {cd15 : Value} 
    (a15 : PySem.W.nsIn K mainGlobals "holds_by" = some (some (.ref f15)))
    (l15 : K.lookup f15 = some ⟨oc15, od15, .func (PySem.W.fnOf "holds_by" "holds_by" (defArgs s_holds_by) (defBody s_holds_by) (defScope s_holds_by) .none kV15 dc15 pm15 an15 cd15 ct15), sl15⟩)
    (c15 : PySem.W.codeIn K cd15 "holds_by" = true)
    (k15 : PySem.W.keepIn K (.ref f15) = true)
    {od16 an16 : Option Addr} {sl16 : Array (Option Value)} {oc16 kV16 dc16 pm16 ct16 : Value} {f16 : Addr} {cd16 : Value} 
    (a16 : PySem.W.nsIn K mainGlobals "wanted" = some (some (.ref f16)))
    (l16 : K.lookup f16 = some ⟨oc16, od16, .func (PySem.W.fnOf "wanted" "wanted" (defArgs s_wanted) (defBody s_wanted) (defScope s_wanted) .none kV16 dc16 pm16 an16 cd16 ct16), sl16⟩)
    (c16 : PySem.W.codeIn K cd16 "wanted" = true)
    (k16 : PySem.W.keepIn K (.ref f16) = true)
    {od17 an17 : Option Addr} {sl17 : Array (Option Value)} {oc17 kV17 dc17 pm17 ct17 : Value} {f17 : Addr} {cd17 : Value} 
    (a17 : PySem.W.nsIn K mainGlobals "root_below" = some (some (.ref f17)))
    (l17 : K.lookup f17 = some ⟨oc17, od17, .func (PySem.W.fnOf "root_below" "root_below" (defArgs s_root_below) (defBody s_root_below) (defScope s_root_below) .none kV17 dc17 pm17 an17 cd17 ct17), sl17⟩)
    (c17 : PySem.W.codeIn K cd17 "root_below" = true)
    (k17 : PySem.W.keepIn K (.ref f17) = true)
    {od18 an18 : Option Addr} {sl18 : Array (Option Value)} {oc18 kV18 dc18 pm18 ct18 : Value} {f18 : Addr} {cd18 : Value} 
    (a18 : PySem.W.nsIn K mainGlobals "fourth_found" = some (some (.ref f18)))
    (l18 : K.lookup f18 = some ⟨oc18, od18, .func (PySem.W.fnOf "fourth_found" "fourth_found" (defArgs s_fourth_found) (defBody s_fourth_found) (defScope s_fourth_found) .none kV18 dc18 pm18 an18 cd18 ct18), sl18⟩)
    (c18 : PySem.W.codeIn K cd18 "fourth_found" = true)
    (k18 : PySem.W.keepIn K (.ref f18) = true)
    {od19 an19 : Option Addr} {sl19 : Array (Option Value)} {oc19 kV19 dc19 pm19 ct19 : Value} {f19 : Addr} 
    (a19 : PySem.W.findIn K (.ref C_ByPower) "__init__" = some (some (.ref f19)))
    {cc19 ca19 : Addr} {xcl19 : Value} {xcd19 : Option Addr} {xvs19 : Array Value} {xcs19 : Array (Option Value)} {file19 : Str} {tf19 : Tok} {ycl19 : Value} {ycd19 : Option Addr} {ycs19 : Array (Option Value)} {cdD19 : ClassData} 
    (l19 : K.lookup f19 = some ⟨oc19, od19, .func (PySem.W.fnX "__init__" "ByPower.__init__" (defArgs s_ByPower_init) (defBody s_ByPower_init) (defScope s_ByPower_init) [("__class__", cc19)] .none kV19 dc19 pm19 an19 (.ref ca19) ct19), sl19⟩)
    (c19 : PySem.W.codeIn K (.ref ca19) "ByPower.__init__" = true)
    (x19 : K.lookup ca19 = some ⟨xcl19, xcd19, .fields xvs19, xcs19⟩)
    (u19 : xvs19[2]? = some (.str file19 tf19))
    (v19 : ((l.prog.main.file : Str) == file19) = true)
    (y19 : K.lookup cc19 = some ⟨ycl19, ycd19, .cell (some (.ref C_ByPower)), ycs19⟩)
    (w19 : PySem.W.clsIn K C_ByPower = some cdD19)
    {od20 an20 : Option Addr} {sl20 : Array (Option Value)} {oc20 kV20 dc20 pm20 ct20 : Value} {f20 : Addr} 
    (a20 : PySem.W.findIn K (.ref C_Between) "__init__" = some (some (.ref f20)))
    {cc20 ca20 : Addr} {xcl20 : Value} {xcd20 : Option Addr} {xvs20 : Array Value} {xcs20 : Array (Option Value)} {file20 : Str} {tf20 : Tok} {ycl20 : Value} {ycd20 : Option Addr} {ycs20 : Array (Option Value)} {cdD20 : ClassData} 
    (l20 : K.lookup f20 = some ⟨oc20, od20, .func (PySem.W.fnX "__init__" "Between.__init__" (defArgs s_Between_init) (defBody s_Between_init) (defScope s_Between_init) [("__class__", cc20)] .none kV20 dc20 pm20 an20 (.ref ca20) ct20), sl20⟩)
    (c20 : PySem.W.codeIn K (.ref ca20) "Between.__init__" = true)
    (x20 : K.lookup ca20 = some ⟨xcl20, xcd20, .fields xvs20, xcs20⟩)
    (u20 : xvs20[2]? = some (.str file20 tf20))
    (v20 : ((l.prog.main.file : Str) == file20) = true)
    (y20 : K.lookup cc20 = some ⟨ycl20, ycd20, .cell (some (.ref C_Between)), ycs20⟩)
    (w20 : PySem.W.clsIn K C_Between = some cdD20)
    {od21 an21 : Option Addr} {sl21 : Array (Option Value)} {oc21 kV21 dc21 pm21 ct21 : Value} {f21 : Addr} {cd21 : Value} 
    (a21 : PySem.W.nsIn K mainGlobals "need_growing" = some (some (.ref f21)))
    (l21 : K.lookup f21 = some ⟨oc21, od21, .func (PySem.W.fnOf "need_growing" "need_growing" (defArgs s_need_growing) (defBody s_need_growing) (defScope s_need_growing) .none kV21 dc21 pm21 an21 cd21 ct21), sl21⟩)
    (c21 : PySem.W.codeIn K cd21 "need_growing" = true)
    (k21 : PySem.W.keepIn K (.ref f21) = true)
    {od22 an22 : Option Addr} {sl22 : Array (Option Value)} {oc22 kV22 dc22 pm22 ct22 : Value} {f22 : Addr} {cd22 : Value} 
    (a22 : PySem.W.nsIn K mainGlobals "least_step" = some (some (.ref f22)))
    (l22 : K.lookup f22 = some ⟨oc22, od22, .func (PySem.W.fnOf "least_step" "least_step" (defArgs s_least_step) (defBody s_least_step) (defScope s_least_step) .none kV22 dc22 pm22 an22 cd22 ct22), sl22⟩)
    (c22 : PySem.W.codeIn K cd22 "least_step" = true)
    (k22 : PySem.W.keepIn K (.ref f22) = true)
    {od23 an23 : Option Addr} {sl23 : Array (Option Value)} {oc23 kV23 dc23 pm23 ct23 : Value} {f23 : Addr} {cd23 : Value} 
    (a23 : PySem.W.nsIn K mainGlobals "power_of" = some (some (.ref f23)))
    (l23 : K.lookup f23 = some ⟨oc23, od23, .func (PySem.W.fnOf "power_of" "power_of" (defArgs s_power_of) (defBody s_power_of) (defScope s_power_of) .none kV23 dc23 pm23 an23 cd23 ct23), sl23⟩)
    (c23 : PySem.W.codeIn K cd23 "power_of" = true)
    (k23 : PySem.W.keepIn K (.ref f23) = true)
    {od24 an24 : Option Addr} {sl24 : Array (Option Value)} {oc24 kV24 dc24 pm24 ct24 : Value} {f24 : Addr} 
    (a24 : PySem.W.findIn K (.ref C_Uneven) "__init__" = some (some (.ref f24)))
    {cc24 ca24 : Addr} {xcl24 : Value} {xcd24 : Option Addr} {xvs24 : Array Value} {xcs24 : Array (Option Value)} {file24 : Str} {tf24 : Tok} {ycl24 : Value} {ycd24 : Option Addr} {ycs24 : Array (Option Value)} {cdD24 : ClassData} 
    (l24 : K.lookup f24 = some ⟨oc24, od24, .func (PySem.W.fnX "__init__" "Uneven.__init__" (defArgs s_Uneven_init) (defBody s_Uneven_init) (defScope s_Uneven_init) [("__class__", cc24)] .none kV24 dc24 pm24 an24 (.ref ca24) ct24), sl24⟩)
    (c24 : PySem.W.codeIn K (.ref ca24) "Uneven.__init__" = true)
    (x24 : K.lookup ca24 = some ⟨xcl24, xcd24, .fields xvs24, xcs24⟩)
    (u24 : xvs24[2]? = some (.str file24 tf24))
    (v24 : ((l.prog.main.file : Str) == file24) = true)
    (y24 : K.lookup cc24 = some ⟨ycl24, ycd24, .cell (some (.ref C_Uneven)), ycs24⟩)
    (w24 : PySem.W.clsIn K C_Uneven = some cdD24)
    {od25 an25 : Option Addr} {sl25 : Array (Option Value)} {oc25 kV25 dc25 pm25 ct25 : Value} {f25 : Addr} {cd25 : Value} 
    (a25 : PySem.W.nsIn K mainGlobals "numbers_by" = some (some (.ref f25)))
    (l25 : K.lookup f25 = some ⟨oc25, od25, .func (PySem.W.fnOf "numbers_by" "numbers_by" (defArgs s_numbers_by) (defBody s_numbers_by) (defScope s_numbers_by) .none kV25 dc25 pm25 an25 cd25 ct25), sl25⟩)
    (c25 : PySem.W.codeIn K cd25 "numbers_by" = true)
    (k25 : PySem.W.keepIn K (.ref f25) = true)
    {od26 an26 : Option Addr} {sl26 : Array (Option Value)} {oc26 kV26 dc26 pm26 ct26 : Value} {f26 : Addr} {cd26 : Value} 
    (a26 : PySem.W.nsIn K mainGlobals "need_numbers" = some (some (.ref f26)))
    (l26 : K.lookup f26 = some ⟨oc26, od26, .func (PySem.W.fnOf "need_numbers" "need_numbers" (defArgs s_need_numbers) (defBody s_need_numbers) (defScope s_need_numbers) .none kV26 dc26 pm26 an26 cd26 ct26), sl26⟩)
    (c26 : PySem.W.codeIn K cd26 "need_numbers" = true)
    (k26 : PySem.W.keepIn K (.ref f26) = true)
    {od27 an27 : Option Addr} {sl27 : Array (Option Value)} {oc27 kV27 dc27 pm27 ct27 : Value} {f27 : Addr} {cd27 : Value} 
    (a27 : PySem.W.nsIn K mainGlobals "step_power" = some (some (.ref f27)))
    (l27 : K.lookup f27 = some ⟨oc27, od27, .func (PySem.W.fnOf "step_power" "step_power" (defArgs s_step_power) (defBody s_step_power) (defScope s_step_power) .none kV27 dc27 pm27 an27 cd27 ct27), sl27⟩)
    (c27 : PySem.W.codeIn K cd27 "step_power" = true)
    (k27 : PySem.W.keepIn K (.ref f27) = true)
    {od28 an28 : Option Addr} {sl28 : Array (Option Value)} {oc28 kV28 dc28 pm28 ct28 : Value} {f28 : Addr} {cd28 : Value} 
    (a28 : PySem.W.nsIn K mainGlobals "is_step_by" = some (some (.ref f28)))
    (l28 : K.lookup f28 = some ⟨oc28, od28, .func (PySem.W.fnOf "is_step_by" "is_step_by" (defArgs s_is_step_by) (defBody s_is_step_by) (defScope s_is_step_by) .none kV28 dc28 pm28 an28 cd28 ct28), sl28⟩)
    (c28 : PySem.W.codeIn K cd28 "is_step_by" = true)
    (k28 : PySem.W.keepIn K (.ref f28) = true)
    {od29 an29 : Option Addr} {sl29 : Array (Option Value)} {oc29 kV29 dc29 pm29 ct29 : Value} {f29 : Addr} {cd29 : Value} 
    (a29 : PySem.W.nsIn K mainGlobals "power_of_row" = some (some (.ref f29)))
    (l29 : K.lookup f29 = some ⟨oc29, od29, .func (PySem.W.fnOf "power_of_row" "power_of_row" (defArgs s_power_of_row) (defBody s_power_of_row) (defScope s_power_of_row) .none kV29 dc29 pm29 an29 cd29 ct29), sl29⟩)
    (c29 : PySem.W.codeIn K cd29 "power_of_row" = true)
    (k29 : PySem.W.keepIn K (.ref f29) = true)
    {od30 an30 : Option Addr} {sl30 : Array (Option Value)} {oc30 kV30 dc30 pm30 ct30 : Value} {f30 : Addr} {cd30 : Value} 
    (a30 : PySem.W.nsIn K mainGlobals "shows_power_of_row" = some (some (.ref f30)))
    (l30 : K.lookup f30 = some ⟨oc30, od30, .func (PySem.W.fnOf "shows_power_of_row" "shows_power_of_row" (defArgs s_shows_power_of_row) (defBody s_shows_power_of_row) (defScope s_shows_power_of_row) .none kV30 dc30 pm30 an30 cd30 ct30), sl30⟩)
    (c30 : PySem.W.codeIn K cd30 "shows_power_of_row" = true)
    (k30 : PySem.W.keepIn K (.ref f30) = true)
    {od31 an31 : Option Addr} {sl31 : Array (Option Value)} {oc31 kV31 dc31 pm31 ct31 : Value} {f31 : Addr} {cd31 : Value} 
    (a31 : PySem.W.nsIn K mainGlobals "_law_hat" = some (some (.ref f31)))
    (l31 : K.lookup f31 = some ⟨oc31, od31, .func (PySem.W.fnOf "_law_hat" "_law_hat" (defArgs s__law_hat) (defBody s__law_hat) (defScope s__law_hat) .none kV31 dc31 pm31 an31 cd31 ct31), sl31⟩)
    (c31 : PySem.W.codeIn K cd31 "_law_hat" = true)
    (k31 : PySem.W.keepIn K (.ref f31) = true)
    {od32 an32 : Option Addr} {sl32 : Array (Option Value)} {oc32 kV32 dc32 pm32 ct32 : Value} {f32 : Addr} {cd32 : Value} 
    (a32 : PySem.W.nsIn K mainGlobals "_law_lot" = some (some (.ref f32)))
    (l32 : K.lookup f32 = some ⟨oc32, od32, .func (PySem.W.fnOf "_law_lot" "_law_lot" (defArgs s__law_lot) (defBody s__law_lot) (defScope s__law_lot) .none kV32 dc32 pm32 an32 cd32 ct32), sl32⟩)
    (c32 : PySem.W.codeIn K cd32 "_law_lot" = true)
    (k32 : PySem.W.keepIn K (.ref f32) = true)
    {od33 an33 : Option Addr} {sl33 : Array (Option Value)} {oc33 kV33 dc33 pm33 ct33 : Value} {f33 : Addr} {cd33 : Value} 
    (a33 : PySem.W.nsIn K mainGlobals "_law_one" = some (some (.ref f33)))
    (l33 : K.lookup f33 = some ⟨oc33, od33, .func (PySem.W.fnOf "_law_one" "_law_one" (defArgs s__law_one) (defBody s__law_one) (defScope s__law_one) .none kV33 dc33 pm33 an33 cd33 ct33), sl33⟩)
    (c33 : PySem.W.codeIn K cd33 "_law_one" = true)
    (k33 : PySem.W.keepIn K (.ref f33) = true)
    {od34 an34 : Option Addr} {sl34 : Array (Option Value)} {oc34 kV34 dc34 pm34 ct34 : Value} {f34 : Addr} {cd34 : Value} 
    (a34 : PySem.W.nsIn K mainGlobals "_law_raised" = some (some (.ref f34)))
    (l34 : K.lookup f34 = some ⟨oc34, od34, .func (PySem.W.fnOf "_law_raised" "_law_raised" (defArgs s__law_raised) (defBody s__law_raised) (defScope s__law_raised) .none kV34 dc34 pm34 an34 cd34 ct34), sl34⟩)
    (c34 : PySem.W.codeIn K cd34 "_law_raised" = true)
    (k34 : PySem.W.keepIn K (.ref f34) = true)
    {od35 an35 : Option Addr} {sl35 : Array (Option Value)} {oc35 kV35 dc35 pm35 ct35 : Value} {f35 : Addr} {cd35 : Value} 
    (a35 : PySem.W.nsIn K mainGlobals "_law_wanted" = some (some (.ref f35)))
    (l35 : K.lookup f35 = some ⟨oc35, od35, .func (PySem.W.fnOf "_law_wanted" "_law_wanted" (defArgs s__law_wanted) (defBody s__law_wanted) (defScope s__law_wanted) .none kV35 dc35 pm35 an35 cd35 ct35), sl35⟩)
    (c35 : PySem.W.codeIn K cd35 "_law_wanted" = true)
    (k35 : PySem.W.keepIn K (.ref f35) = true)
    {od36 an36 : Option Addr} {sl36 : Array (Option Value)} {oc36 kV36 dc36 pm36 ct36 : Value} {f36 : Addr} {cd36 : Value} 
    (a36 : PySem.W.nsIn K mainGlobals "_law_behind" = some (some (.ref f36)))
    (l36 : K.lookup f36 = some ⟨oc36, od36, .func (PySem.W.fnOf "_law_behind" "_law_behind" (defArgs s__law_behind) (defBody s__law_behind) (defScope s__law_behind) .none kV36 dc36 pm36 an36 cd36 ct36), sl36⟩)
    (c36 : PySem.W.codeIn K cd36 "_law_behind" = true)
    (k36 : PySem.W.keepIn K (.ref f36) = true)
    {od37 an37 : Option Addr} {sl37 : Array (Option Value)} {oc37 kV37 dc37 pm37 ct37 : Value} {f37 : Addr} {cd37 : Value} 
    (a37 : PySem.W.nsIn K mainGlobals "_law_begun" = some (some (.ref f37)))
    (l37 : K.lookup f37 = some ⟨oc37, od37, .func (PySem.W.fnOf "_law_begun" "_law_begun" (defArgs s__law_begun) (defBody s__law_begun) (defScope s__law_begun) .none kV37 dc37 pm37 an37 cd37 ct37), sl37⟩)
    (c37 : PySem.W.codeIn K cd37 "_law_begun" = true)
    (k37 : PySem.W.keepIn K (.ref f37) = true)
    {od38 an38 : Option Addr} {sl38 : Array (Option Value)} {oc38 kV38 dc38 pm38 ct38 : Value} {f38 : Addr} {cd38 : Value} 
    (a38 : PySem.W.nsIn K mainGlobals "_law_gone_on" = some (some (.ref f38)))
    (l38 : K.lookup f38 = some ⟨oc38, od38, .func (PySem.W.fnOf "_law_gone_on" "_law_gone_on" (defArgs s__law_gone_on) (defBody s__law_gone_on) (defScope s__law_gone_on) .none kV38 dc38 pm38 an38 cd38 ct38), sl38⟩)
    (c38 : PySem.W.codeIn K cd38 "_law_gone_on" = true)
    (k38 : PySem.W.keepIn K (.ref f38) = true)
    {od39 an39 : Option Addr} {sl39 : Array (Option Value)} {oc39 kV39 dc39 pm39 ct39 : Value} {f39 : Addr} {cd39 : Value} 
    (a39 : PySem.W.nsIn K mainGlobals "_law_is_by" = some (some (.ref f39)))
    (l39 : K.lookup f39 = some ⟨oc39, od39, .func (PySem.W.fnOf "_law_is_by" "_law_is_by" (defArgs s__law_is_by) (defBody s__law_is_by) (defScope s__law_is_by) .none kV39 dc39 pm39 an39 cd39 ct39), sl39⟩)
    (c39 : PySem.W.codeIn K cd39 "_law_is_by" = true)
    (k39 : PySem.W.keepIn K (.ref f39) = true)
    {od40 an40 : Option Addr} {sl40 : Array (Option Value)} {oc40 kV40 dc40 pm40 ct40 : Value} {f40 : Addr} {cd40 : Value} 
    (a40 : PySem.W.nsIn K mainGlobals "_law_power" = some (some (.ref f40)))
    (l40 : K.lookup f40 = some ⟨oc40, od40, .func (PySem.W.fnOf "_law_power" "_law_power" (defArgs s__law_power) (defBody s__law_power) (defScope s__law_power) .none kV40 dc40 pm40 an40 cd40 ct40), sl40⟩)
    (c40 : PySem.W.codeIn K cd40 "_law_power" = true)
    (k40 : PySem.W.keepIn K (.ref f40) = true)
    {od41 an41 : Option Addr} {sl41 : Array (Option Value)} {oc41 kV41 dc41 pm41 ct41 : Value} {f41 : Addr} {cd41 : Value} 
    (a41 : PySem.W.nsIn K mainGlobals "_law_row" = some (some (.ref f41)))
    (l41 : K.lookup f41 = some ⟨oc41, od41, .func (PySem.W.fnOf "_law_row" "_law_row" (defArgs s__law_row) (defBody s__law_row) (defScope s__law_row) .none kV41 dc41 pm41 an41 cd41 ct41), sl41⟩)
    (c41 : PySem.W.codeIn K cd41 "_law_row" = true)
    (k41 : PySem.W.keepIn K (.ref f41) = true)
    {od42 an42 : Option Addr} {sl42 : Array (Option Value)} {oc42 kV42 dc42 pm42 ct42 : Value} {f42 : Addr} {cd42 : Value} 
    (a42 : PySem.W.nsIn K mainGlobals "_law_due" = some (some (.ref f42)))
    (l42 : K.lookup f42 = some ⟨oc42, od42, .func (PySem.W.fnOf "_law_due" "_law_due" (defArgs s__law_due) (defBody s__law_due) (defScope s__law_due) .none kV42 dc42 pm42 an42 cd42 ct42), sl42⟩)
    (c42 : PySem.W.codeIn K cd42 "_law_due" = true)
    (k42 : PySem.W.keepIn K (.ref f42) = true)
    {od43 an43 : Option Addr} {sl43 : Array (Option Value)} {oc43 kV43 dc43 pm43 ct43 : Value} {f43 : Addr} {cd43 : Value} 
    (a43 : PySem.W.nsIn K mainGlobals "_law_told" = some (some (.ref f43)))
    (l43 : K.lookup f43 = some ⟨oc43, od43, .func (PySem.W.fnOf "_law_told" "_law_told" (defArgs s__law_told) (defBody s__law_told) (defScope s__law_told) .none kV43 dc43 pm43 an43 cd43 ct43), sl43⟩)
    (c43 : PySem.W.codeIn K cd43 "_law_told" = true)
    (k43 : PySem.W.keepIn K (.ref f43) = true)
    {od44 an44 : Option Addr} {sl44 : Array (Option Value)} {oc44 kV44 dc44 pm44 ct44 : Value} {f44 : Addr} {cd44 : Value} 
    (a44 : PySem.W.nsIn K mainGlobals "law" = some (some (.ref f44)))
    (l44 : K.lookup f44 = some ⟨oc44, od44, .func (PySem.W.fnOf "law" "law" (defArgs s_law) (defBody s_law) (defScope s_law) .none kV44 dc44 pm44 an44 cd44 ct44), sl44⟩)
    (c44 : PySem.W.codeIn K cd44 "law" = true)
    (k44 : PySem.W.keepIn K (.ref f44) = true)
    (oG : PySem.W.specialIn K (.builtin "object.__class__") "__get__" = some (some (.builtin "getset_descriptor.__get__")))
    (oT : PySem.W.takesIn K (.builtin "object.__class__") = some true)
    (oS : PySem.W.nsIn K cStatics "thirdparty.any" = some none)
    (mk1_NoWhole : PySem.W.makesIn K C_NoWhole = true)
    (mk2_NoWhole : PySem.W.findIn K (.ref C_NoWhole) "__init__" = some (some (.ref f9)))
    (mk3_NoWhole : PySem.W.isFn K (.ref f9) = true)
    (mk4_NoWhole : PySem.W.keepIn K (.ref C_NoWhole) = true)
    (p1_NoWhole : PySem.W.plainGet K C_NoWhole Str.empty = true)
    (p2_NoWhole : PySem.W.hasDictIn K C_NoWhole = true)
    (p3_NoWhole : PySem.W.plainOver K C_NoWhole = true)
    (p4_NoWhole : PySem.W.findIn K (.ref C_NoWhole) "__setattr__" = some (some (.builtin "object.__setattr__")))
    (p5_NoWhole : PySem.W.plainGet K C_NoWhole "__class__" = true)
    (p6_NoWhole : PySem.W.findIn K (.ref C_NoWhole) "__class__" = some (some (.builtin "object.__class__")))
    (p7_NoWhole : PySem.W.mroIn K C_NoWhole (.type "object") = some true)
    {odN_NoWhole : Option Addr} {cdN_NoWhole : ClassData} {slN_NoWhole : Array (Option Value)} {tkN_NoWhole : Tok}
    (p8_NoWhole : PySem.W.readsIn K C_NoWhole (.type "type") = true)
    (p9_NoWhole : PySem.W.findCls K (.ref C_NoWhole) (.type "type") "__name__" = some (.get (.builtin "getset_descriptor.__get__") (.builtin "type.__name__") (.ref C_NoWhole) (.type "type")))
    (p10_NoWhole : K.lookup C_NoWhole = some ⟨.type "type", odN_NoWhole, .cls cdN_NoWhole, slN_NoWhole⟩)
    (p11_NoWhole : slN_NoWhole[2]? = some (some (.str "NoWhole" tkN_NoWhole)))
    (p12_NoWhole : NoAttr K C_NoWhole "word")
    (p13_NoWhole : NoAttr K C_NoWhole "parts")
    (p14_NoWhole : PySem.W.kitOne K (.ref C_NoWhole) (.ref C_Paper) = some true)
    (s1_NoWhole_NoWhole : PySem.W.ks_superIn K C_NoWhole C_NoWhole "__init__" = some (some (.ref f1)))
    (s2_NoWhole_NoWhole : PySem.W.typeIn K (.ref f1) = some (.type "function"))
    (s3_NoWhole_NoWhole : PySem.W.fnIn K f1 = true)
    (s4_NoWhole_NoWhole : PySem.W.mroIn K C_NoWhole (.ref C_NoWhole) = some true)
    (n_NoWhole_low : NoAttr K C_NoWhole "low")
    (i_NoWhole_Paper : PySem.W.kitOne K (.ref C_NoWhole) (.ref C_Paper) = some true)
    (i_NoWhole_NoWhole : PySem.W.kitOne K (.ref C_NoWhole) (.ref C_NoWhole) = some true)
    (i_NoWhole_Between : PySem.W.kitOne K (.ref C_NoWhole) (.ref C_Between) = some false)
    (i_NoWhole_ByPower : PySem.W.kitOne K (.ref C_NoWhole) (.ref C_ByPower) = some false)
    (i_NoWhole_Uneven : PySem.W.kitOne K (.ref C_NoWhole) (.ref C_Uneven) = some false)
    (io_NoWhole_list : PySem.W.kitOne K (.ref C_NoWhole) (.type "list") = some false)
    (io_NoWhole_tuple : PySem.W.kitOne K (.ref C_NoWhole) (.type "tuple") = some false)
    (io_NoWhole_int : PySem.W.kitOne K (.ref C_NoWhole) (.type "int") = some false)
    (io_NoWhole_bool : PySem.W.kitOne K (.ref C_NoWhole) (.type "bool") = some false)
    (b1_NoWhole : PySem.W.findIn K (.ref C_NoWhole) "__bool__" = some (some (.ref f4)))
    (b2_NoWhole : PySem.W.isFn K (.ref f4) = true)
    (e1_NoWhole : PySem.W.findIn K (.ref C_NoWhole) "__eq__" = some (some (.ref f3)))
    (e2_NoWhole : PySem.W.isFn K (.ref f3) = true)
    (e3_NoWhole : PySem.W.findIn K (.ref C_NoWhole) "__ne__" = some (some (.builtin "object.__ne__")))
    (e4_NoWhole_NoWhole : PySem.W.notFirst K C_NoWhole (.ref C_NoWhole) = true)
    (e4_NoWhole_Whole : PySem.W.notFirst K C_NoWhole (.ref C_Whole) = true)
    (e4_NoWhole_Between : PySem.W.notFirst K C_NoWhole (.ref C_Between) = true)
    (e4_NoWhole_ByPower : PySem.W.notFirst K C_NoWhole (.ref C_ByPower) = true)
    (e4_NoWhole_Uneven : PySem.W.notFirst K C_NoWhole (.ref C_Uneven) = true)
    (e4_NoWhole_Paper : PySem.W.notFirst K C_NoWhole (.ref C_Paper) = true)
    (e4_NoWhole_Denial : PySem.W.notFirst K C_NoWhole (.ref C_Denial) = true)
    (mk1_Whole : PySem.W.makesIn K C_Whole = true)
    (mk2_Whole : PySem.W.findIn K (.ref C_Whole) "__init__" = some (some (.ref f8)))
    (mk3_Whole : PySem.W.isFn K (.ref f8) = true)
    (mk4_Whole : PySem.W.keepIn K (.ref C_Whole) = true)
    (p1_Whole : PySem.W.plainGet K C_Whole Str.empty = true)
    (p2_Whole : PySem.W.hasDictIn K C_Whole = true)
    (p3_Whole : PySem.W.plainOver K C_Whole = true)
    (p4_Whole : PySem.W.findIn K (.ref C_Whole) "__setattr__" = some (some (.builtin "object.__setattr__")))
    (p5_Whole : PySem.W.plainGet K C_Whole "__class__" = true)
    (p6_Whole : PySem.W.findIn K (.ref C_Whole) "__class__" = some (some (.builtin "object.__class__")))
    (p7_Whole : PySem.W.mroIn K C_Whole (.type "object") = some true)
    {odN_Whole : Option Addr} {cdN_Whole : ClassData} {slN_Whole : Array (Option Value)} {tkN_Whole : Tok}
    (p8_Whole : PySem.W.readsIn K C_Whole (.type "type") = true)
    (p9_Whole : PySem.W.findCls K (.ref C_Whole) (.type "type") "__name__" = some (.get (.builtin "getset_descriptor.__get__") (.builtin "type.__name__") (.ref C_Whole) (.type "type")))
    (p10_Whole : K.lookup C_Whole = some ⟨.type "type", odN_Whole, .cls cdN_Whole, slN_Whole⟩)
    (p11_Whole : slN_Whole[2]? = some (some (.str "Whole" tkN_Whole)))
    (p12_Whole : NoAttr K C_Whole "word")
    (p13_Whole : NoAttr K C_Whole "parts")
    (p14_Whole : PySem.W.kitOne K (.ref C_Whole) (.ref C_Paper) = some true)
    (s1_Whole_Whole : PySem.W.ks_superIn K C_Whole C_Whole "__init__" = some (some (.ref f1)))
    (s2_Whole_Whole : PySem.W.typeIn K (.ref f1) = some (.type "function"))
    (s3_Whole_Whole : PySem.W.fnIn K f1 = true)
    (s4_Whole_Whole : PySem.W.mroIn K C_Whole (.ref C_Whole) = some true)
    (n_Whole_number : NoAttr K C_Whole "number")
    (i_Whole_Paper : PySem.W.kitOne K (.ref C_Whole) (.ref C_Paper) = some true)
    (i_Whole_NoWhole : PySem.W.kitOne K (.ref C_Whole) (.ref C_NoWhole) = some false)
    (i_Whole_Between : PySem.W.kitOne K (.ref C_Whole) (.ref C_Between) = some false)
    (i_Whole_ByPower : PySem.W.kitOne K (.ref C_Whole) (.ref C_ByPower) = some false)
    (i_Whole_Uneven : PySem.W.kitOne K (.ref C_Whole) (.ref C_Uneven) = some false)
    (io_Whole_list : PySem.W.kitOne K (.ref C_Whole) (.type "list") = some false)
    (io_Whole_tuple : PySem.W.kitOne K (.ref C_Whole) (.type "tuple") = some false)
    (io_Whole_int : PySem.W.kitOne K (.ref C_Whole) (.type "int") = some false)
    (io_Whole_bool : PySem.W.kitOne K (.ref C_Whole) (.type "bool") = some false)
    (b1_Whole : PySem.W.findIn K (.ref C_Whole) "__bool__" = some (some (.ref f2)))
    (b2_Whole : PySem.W.isFn K (.ref f2) = true)
    (e1_Whole : PySem.W.findIn K (.ref C_Whole) "__eq__" = some (some (.ref f3)))
    (e2_Whole : PySem.W.isFn K (.ref f3) = true)
    (e3_Whole : PySem.W.findIn K (.ref C_Whole) "__ne__" = some (some (.builtin "object.__ne__")))
    (e4_Whole_NoWhole : PySem.W.notFirst K C_Whole (.ref C_NoWhole) = true)
    (e4_Whole_Whole : PySem.W.notFirst K C_Whole (.ref C_Whole) = true)
    (e4_Whole_Between : PySem.W.notFirst K C_Whole (.ref C_Between) = true)
    (e4_Whole_ByPower : PySem.W.notFirst K C_Whole (.ref C_ByPower) = true)
    (e4_Whole_Uneven : PySem.W.notFirst K C_Whole (.ref C_Uneven) = true)
    (e4_Whole_Paper : PySem.W.notFirst K C_Whole (.ref C_Paper) = true)
    (e4_Whole_Denial : PySem.W.notFirst K C_Whole (.ref C_Denial) = true)
    (mk1_Between : PySem.W.makesIn K C_Between = true)
    (mk2_Between : PySem.W.findIn K (.ref C_Between) "__init__" = some (some (.ref f20)))
    (mk3_Between : PySem.W.isFn K (.ref f20) = true)
    (mk4_Between : PySem.W.keepIn K (.ref C_Between) = true)
    (p1_Between : PySem.W.plainGet K C_Between Str.empty = true)
    (p2_Between : PySem.W.hasDictIn K C_Between = true)
    (p3_Between : PySem.W.plainOver K C_Between = true)
    (p4_Between : PySem.W.findIn K (.ref C_Between) "__setattr__" = some (some (.builtin "object.__setattr__")))
    (p5_Between : PySem.W.plainGet K C_Between "__class__" = true)
    (p6_Between : PySem.W.findIn K (.ref C_Between) "__class__" = some (some (.builtin "object.__class__")))
    (p7_Between : PySem.W.mroIn K C_Between (.type "object") = some true)
    {odN_Between : Option Addr} {cdN_Between : ClassData} {slN_Between : Array (Option Value)} {tkN_Between : Tok}
    (p8_Between : PySem.W.readsIn K C_Between (.type "type") = true)
    (p9_Between : PySem.W.findCls K (.ref C_Between) (.type "type") "__name__" = some (.get (.builtin "getset_descriptor.__get__") (.builtin "type.__name__") (.ref C_Between) (.type "type")))
    (p10_Between : K.lookup C_Between = some ⟨.type "type", odN_Between, .cls cdN_Between, slN_Between⟩)
    (p11_Between : slN_Between[2]? = some (some (.str "Between" tkN_Between)))
    (p12_Between : NoAttr K C_Between "word")
    (p13_Between : NoAttr K C_Between "parts")
    (p14_Between : PySem.W.kitOne K (.ref C_Between) (.ref C_Paper) = some true)
    (s1_Between_Between : PySem.W.ks_superIn K C_Between C_Between "__init__" = some (some (.ref f1)))
    (s2_Between_Between : PySem.W.typeIn K (.ref f1) = some (.type "function"))
    (s3_Between_Between : PySem.W.fnIn K f1 = true)
    (s4_Between_Between : PySem.W.mroIn K C_Between (.ref C_Between) = some true)
    (n_Between_low : NoAttr K C_Between "low")
    (i_Between_Paper : PySem.W.kitOne K (.ref C_Between) (.ref C_Paper) = some true)
    (i_Between_NoWhole : PySem.W.kitOne K (.ref C_Between) (.ref C_NoWhole) = some false)
    (i_Between_Between : PySem.W.kitOne K (.ref C_Between) (.ref C_Between) = some true)
    (i_Between_ByPower : PySem.W.kitOne K (.ref C_Between) (.ref C_ByPower) = some false)
    (i_Between_Uneven : PySem.W.kitOne K (.ref C_Between) (.ref C_Uneven) = some false)
    (io_Between_list : PySem.W.kitOne K (.ref C_Between) (.type "list") = some false)
    (io_Between_tuple : PySem.W.kitOne K (.ref C_Between) (.type "tuple") = some false)
    (io_Between_int : PySem.W.kitOne K (.ref C_Between) (.type "int") = some false)
    (io_Between_bool : PySem.W.kitOne K (.ref C_Between) (.type "bool") = some false)
    (b1_Between : PySem.W.findIn K (.ref C_Between) "__bool__" = some (some (.ref f4)))
    (b2_Between : PySem.W.isFn K (.ref f4) = true)
    (e1_Between : PySem.W.findIn K (.ref C_Between) "__eq__" = some (some (.ref f3)))
    (e2_Between : PySem.W.isFn K (.ref f3) = true)
    (e3_Between : PySem.W.findIn K (.ref C_Between) "__ne__" = some (some (.builtin "object.__ne__")))
    (e4_Between_NoWhole : PySem.W.notFirst K C_Between (.ref C_NoWhole) = true)
    (e4_Between_Whole : PySem.W.notFirst K C_Between (.ref C_Whole) = true)
    (e4_Between_Between : PySem.W.notFirst K C_Between (.ref C_Between) = true)
    (e4_Between_ByPower : PySem.W.notFirst K C_Between (.ref C_ByPower) = true)
    (e4_Between_Uneven : PySem.W.notFirst K C_Between (.ref C_Uneven) = true)
    (e4_Between_Paper : PySem.W.notFirst K C_Between (.ref C_Paper) = true)
    (e4_Between_Denial : PySem.W.notFirst K C_Between (.ref C_Denial) = true)
    (mk1_ByPower : PySem.W.makesIn K C_ByPower = true)
    (mk2_ByPower : PySem.W.findIn K (.ref C_ByPower) "__init__" = some (some (.ref f19)))
    (mk3_ByPower : PySem.W.isFn K (.ref f19) = true)
    (mk4_ByPower : PySem.W.keepIn K (.ref C_ByPower) = true)
    (p1_ByPower : PySem.W.plainGet K C_ByPower Str.empty = true)
    (p2_ByPower : PySem.W.hasDictIn K C_ByPower = true)
    (p3_ByPower : PySem.W.plainOver K C_ByPower = true)
    (p4_ByPower : PySem.W.findIn K (.ref C_ByPower) "__setattr__" = some (some (.builtin "object.__setattr__")))
    (p5_ByPower : PySem.W.plainGet K C_ByPower "__class__" = true)
    (p6_ByPower : PySem.W.findIn K (.ref C_ByPower) "__class__" = some (some (.builtin "object.__class__")))
    (p7_ByPower : PySem.W.mroIn K C_ByPower (.type "object") = some true)
    {odN_ByPower : Option Addr} {cdN_ByPower : ClassData} {slN_ByPower : Array (Option Value)} {tkN_ByPower : Tok}
    (p8_ByPower : PySem.W.readsIn K C_ByPower (.type "type") = true)
    (p9_ByPower : PySem.W.findCls K (.ref C_ByPower) (.type "type") "__name__" = some (.get (.builtin "getset_descriptor.__get__") (.builtin "type.__name__") (.ref C_ByPower) (.type "type")))
    (p10_ByPower : K.lookup C_ByPower = some ⟨.type "type", odN_ByPower, .cls cdN_ByPower, slN_ByPower⟩)
    (p11_ByPower : slN_ByPower[2]? = some (some (.str "ByPower" tkN_ByPower)))
    (p12_ByPower : NoAttr K C_ByPower "word")
    (p13_ByPower : NoAttr K C_ByPower "parts")
    (p14_ByPower : PySem.W.kitOne K (.ref C_ByPower) (.ref C_Paper) = some true)
    (s1_ByPower_ByPower : PySem.W.ks_superIn K C_ByPower C_ByPower "__init__" = some (some (.ref f1)))
    (s2_ByPower_ByPower : PySem.W.typeIn K (.ref f1) = some (.type "function"))
    (s3_ByPower_ByPower : PySem.W.fnIn K f1 = true)
    (s4_ByPower_ByPower : PySem.W.mroIn K C_ByPower (.ref C_ByPower) = some true)
    (n_ByPower_power : NoAttr K C_ByPower "power")
    (i_ByPower_Paper : PySem.W.kitOne K (.ref C_ByPower) (.ref C_Paper) = some true)
    (i_ByPower_NoWhole : PySem.W.kitOne K (.ref C_ByPower) (.ref C_NoWhole) = some false)
    (i_ByPower_Between : PySem.W.kitOne K (.ref C_ByPower) (.ref C_Between) = some false)
    (i_ByPower_ByPower : PySem.W.kitOne K (.ref C_ByPower) (.ref C_ByPower) = some true)
    (i_ByPower_Uneven : PySem.W.kitOne K (.ref C_ByPower) (.ref C_Uneven) = some false)
    (io_ByPower_list : PySem.W.kitOne K (.ref C_ByPower) (.type "list") = some false)
    (io_ByPower_tuple : PySem.W.kitOne K (.ref C_ByPower) (.type "tuple") = some false)
    (io_ByPower_int : PySem.W.kitOne K (.ref C_ByPower) (.type "int") = some false)
    (io_ByPower_bool : PySem.W.kitOne K (.ref C_ByPower) (.type "bool") = some false)
    (b1_ByPower : PySem.W.findIn K (.ref C_ByPower) "__bool__" = some (some (.ref f2)))
    (b2_ByPower : PySem.W.isFn K (.ref f2) = true)
    (e1_ByPower : PySem.W.findIn K (.ref C_ByPower) "__eq__" = some (some (.ref f3)))
    (e2_ByPower : PySem.W.isFn K (.ref f3) = true)
    (e3_ByPower : PySem.W.findIn K (.ref C_ByPower) "__ne__" = some (some (.builtin "object.__ne__")))
    (e4_ByPower_NoWhole : PySem.W.notFirst K C_ByPower (.ref C_NoWhole) = true)
    (e4_ByPower_Whole : PySem.W.notFirst K C_ByPower (.ref C_Whole) = true)
    (e4_ByPower_Between : PySem.W.notFirst K C_ByPower (.ref C_Between) = true)
    (e4_ByPower_ByPower : PySem.W.notFirst K C_ByPower (.ref C_ByPower) = true)
    (e4_ByPower_Uneven : PySem.W.notFirst K C_ByPower (.ref C_Uneven) = true)
    (e4_ByPower_Paper : PySem.W.notFirst K C_ByPower (.ref C_Paper) = true)
    (e4_ByPower_Denial : PySem.W.notFirst K C_ByPower (.ref C_Denial) = true)
    (mk1_Uneven : PySem.W.makesIn K C_Uneven = true)
    (mk2_Uneven : PySem.W.findIn K (.ref C_Uneven) "__init__" = some (some (.ref f24)))
    (mk3_Uneven : PySem.W.isFn K (.ref f24) = true)
    (mk4_Uneven : PySem.W.keepIn K (.ref C_Uneven) = true)
    (p1_Uneven : PySem.W.plainGet K C_Uneven Str.empty = true)
    (p2_Uneven : PySem.W.hasDictIn K C_Uneven = true)
    (p3_Uneven : PySem.W.plainOver K C_Uneven = true)
    (p4_Uneven : PySem.W.findIn K (.ref C_Uneven) "__setattr__" = some (some (.builtin "object.__setattr__")))
    (p5_Uneven : PySem.W.plainGet K C_Uneven "__class__" = true)
    (p6_Uneven : PySem.W.findIn K (.ref C_Uneven) "__class__" = some (some (.builtin "object.__class__")))
    (p7_Uneven : PySem.W.mroIn K C_Uneven (.type "object") = some true)
    {odN_Uneven : Option Addr} {cdN_Uneven : ClassData} {slN_Uneven : Array (Option Value)} {tkN_Uneven : Tok}
    (p8_Uneven : PySem.W.readsIn K C_Uneven (.type "type") = true)
    (p9_Uneven : PySem.W.findCls K (.ref C_Uneven) (.type "type") "__name__" = some (.get (.builtin "getset_descriptor.__get__") (.builtin "type.__name__") (.ref C_Uneven) (.type "type")))
    (p10_Uneven : K.lookup C_Uneven = some ⟨.type "type", odN_Uneven, .cls cdN_Uneven, slN_Uneven⟩)
    (p11_Uneven : slN_Uneven[2]? = some (some (.str "Uneven" tkN_Uneven)))
    (p12_Uneven : NoAttr K C_Uneven "word")
    (p13_Uneven : NoAttr K C_Uneven "parts")
    (p14_Uneven : PySem.W.kitOne K (.ref C_Uneven) (.ref C_Paper) = some true)
    (s1_Uneven_Uneven : PySem.W.ks_superIn K C_Uneven C_Uneven "__init__" = some (some (.ref f1)))
    (s2_Uneven_Uneven : PySem.W.typeIn K (.ref f1) = some (.type "function"))
    (s3_Uneven_Uneven : PySem.W.fnIn K f1 = true)
    (s4_Uneven_Uneven : PySem.W.mroIn K C_Uneven (.ref C_Uneven) = some true)
    (n_Uneven_step : NoAttr K C_Uneven "step")
    (i_Uneven_Paper : PySem.W.kitOne K (.ref C_Uneven) (.ref C_Paper) = some true)
    (i_Uneven_NoWhole : PySem.W.kitOne K (.ref C_Uneven) (.ref C_NoWhole) = some false)
    (i_Uneven_Between : PySem.W.kitOne K (.ref C_Uneven) (.ref C_Between) = some false)
    (i_Uneven_ByPower : PySem.W.kitOne K (.ref C_Uneven) (.ref C_ByPower) = some false)
    (i_Uneven_Uneven : PySem.W.kitOne K (.ref C_Uneven) (.ref C_Uneven) = some true)
    (io_Uneven_list : PySem.W.kitOne K (.ref C_Uneven) (.type "list") = some false)
    (io_Uneven_tuple : PySem.W.kitOne K (.ref C_Uneven) (.type "tuple") = some false)
    (io_Uneven_int : PySem.W.kitOne K (.ref C_Uneven) (.type "int") = some false)
    (io_Uneven_bool : PySem.W.kitOne K (.ref C_Uneven) (.type "bool") = some false)
    (b1_Uneven : PySem.W.findIn K (.ref C_Uneven) "__bool__" = some (some (.ref f4)))
    (b2_Uneven : PySem.W.isFn K (.ref f4) = true)
    (e1_Uneven : PySem.W.findIn K (.ref C_Uneven) "__eq__" = some (some (.ref f3)))
    (e2_Uneven : PySem.W.isFn K (.ref f3) = true)
    (e3_Uneven : PySem.W.findIn K (.ref C_Uneven) "__ne__" = some (some (.builtin "object.__ne__")))
    (e4_Uneven_NoWhole : PySem.W.notFirst K C_Uneven (.ref C_NoWhole) = true)
    (e4_Uneven_Whole : PySem.W.notFirst K C_Uneven (.ref C_Whole) = true)
    (e4_Uneven_Between : PySem.W.notFirst K C_Uneven (.ref C_Between) = true)
    (e4_Uneven_ByPower : PySem.W.notFirst K C_Uneven (.ref C_ByPower) = true)
    (e4_Uneven_Uneven : PySem.W.notFirst K C_Uneven (.ref C_Uneven) = true)
    (e4_Uneven_Paper : PySem.W.notFirst K C_Uneven (.ref C_Paper) = true)
    (e4_Uneven_Denial : PySem.W.notFirst K C_Uneven (.ref C_Denial) = true)
    (mk1_Paper : PySem.W.makesIn K C_Paper = true)
    (mk2_Paper : PySem.W.findIn K (.ref C_Paper) "__init__" = some (some (.ref f1)))
    (mk3_Paper : PySem.W.isFn K (.ref f1) = true)
    (mk4_Paper : PySem.W.keepIn K (.ref C_Paper) = true)
    (p1_Paper : PySem.W.plainGet K C_Paper Str.empty = true)
    (p2_Paper : PySem.W.hasDictIn K C_Paper = true)
    (p3_Paper : PySem.W.plainOver K C_Paper = true)
    (p4_Paper : PySem.W.findIn K (.ref C_Paper) "__setattr__" = some (some (.builtin "object.__setattr__")))
    (p5_Paper : PySem.W.plainGet K C_Paper "__class__" = true)
    (p6_Paper : PySem.W.findIn K (.ref C_Paper) "__class__" = some (some (.builtin "object.__class__")))
    (p7_Paper : PySem.W.mroIn K C_Paper (.type "object") = some true)
    {odN_Paper : Option Addr} {cdN_Paper : ClassData} {slN_Paper : Array (Option Value)} {tkN_Paper : Tok}
    (p8_Paper : PySem.W.readsIn K C_Paper (.type "type") = true)
    (p9_Paper : PySem.W.findCls K (.ref C_Paper) (.type "type") "__name__" = some (.get (.builtin "getset_descriptor.__get__") (.builtin "type.__name__") (.ref C_Paper) (.type "type")))
    (p10_Paper : K.lookup C_Paper = some ⟨.type "type", odN_Paper, .cls cdN_Paper, slN_Paper⟩)
    (p11_Paper : slN_Paper[2]? = some (some (.str "Paper" tkN_Paper)))
    (p12_Paper : NoAttr K C_Paper "word")
    (p13_Paper : NoAttr K C_Paper "parts")
    (p14_Paper : PySem.W.kitOne K (.ref C_Paper) (.ref C_Paper) = some true)
    (i_Paper_Paper : PySem.W.kitOne K (.ref C_Paper) (.ref C_Paper) = some true)
    (i_Paper_NoWhole : PySem.W.kitOne K (.ref C_Paper) (.ref C_NoWhole) = some false)
    (i_Paper_Between : PySem.W.kitOne K (.ref C_Paper) (.ref C_Between) = some false)
    (i_Paper_ByPower : PySem.W.kitOne K (.ref C_Paper) (.ref C_ByPower) = some false)
    (i_Paper_Uneven : PySem.W.kitOne K (.ref C_Paper) (.ref C_Uneven) = some false)
    (io_Paper_list : PySem.W.kitOne K (.ref C_Paper) (.type "list") = some false)
    (io_Paper_tuple : PySem.W.kitOne K (.ref C_Paper) (.type "tuple") = some false)
    (io_Paper_int : PySem.W.kitOne K (.ref C_Paper) (.type "int") = some false)
    (io_Paper_bool : PySem.W.kitOne K (.ref C_Paper) (.type "bool") = some false)
    (b1_Paper : PySem.W.findIn K (.ref C_Paper) "__bool__" = some (some (.ref f2)))
    (b2_Paper : PySem.W.isFn K (.ref f2) = true)
    (e1_Paper : PySem.W.findIn K (.ref C_Paper) "__eq__" = some (some (.ref f3)))
    (e2_Paper : PySem.W.isFn K (.ref f3) = true)
    (e3_Paper : PySem.W.findIn K (.ref C_Paper) "__ne__" = some (some (.builtin "object.__ne__")))
    (e4_Paper_Paper : PySem.W.notFirst K C_Paper (.ref C_Paper) = true)
    (mk1_Denial : PySem.W.makesIn K C_Denial = true)
    (mk2_Denial : PySem.W.findIn K (.ref C_Denial) "__init__" = some (some (.ref f1)))
    (mk3_Denial : PySem.W.isFn K (.ref f1) = true)
    (mk4_Denial : PySem.W.keepIn K (.ref C_Denial) = true)
    (p1_Denial : PySem.W.plainGet K C_Denial Str.empty = true)
    (p2_Denial : PySem.W.hasDictIn K C_Denial = true)
    (p3_Denial : PySem.W.plainOver K C_Denial = true)
    (p4_Denial : PySem.W.findIn K (.ref C_Denial) "__setattr__" = some (some (.builtin "object.__setattr__")))
    (p5_Denial : PySem.W.plainGet K C_Denial "__class__" = true)
    (p6_Denial : PySem.W.findIn K (.ref C_Denial) "__class__" = some (some (.builtin "object.__class__")))
    (p7_Denial : PySem.W.mroIn K C_Denial (.type "object") = some true)
    {odN_Denial : Option Addr} {cdN_Denial : ClassData} {slN_Denial : Array (Option Value)} {tkN_Denial : Tok}
    (p8_Denial : PySem.W.readsIn K C_Denial (.type "type") = true)
    (p9_Denial : PySem.W.findCls K (.ref C_Denial) (.type "type") "__name__" = some (.get (.builtin "getset_descriptor.__get__") (.builtin "type.__name__") (.ref C_Denial) (.type "type")))
    (p10_Denial : K.lookup C_Denial = some ⟨.type "type", odN_Denial, .cls cdN_Denial, slN_Denial⟩)
    (p11_Denial : slN_Denial[2]? = some (some (.str "Denial" tkN_Denial)))
    (p12_Denial : NoAttr K C_Denial "word")
    (p13_Denial : NoAttr K C_Denial "parts")
    (p14_Denial : PySem.W.kitOne K (.ref C_Denial) (.ref C_Paper) = some true)
    (i_Denial_Paper : PySem.W.kitOne K (.ref C_Denial) (.ref C_Paper) = some true)
    (i_Denial_NoWhole : PySem.W.kitOne K (.ref C_Denial) (.ref C_NoWhole) = some false)
    (i_Denial_Between : PySem.W.kitOne K (.ref C_Denial) (.ref C_Between) = some false)
    (i_Denial_ByPower : PySem.W.kitOne K (.ref C_Denial) (.ref C_ByPower) = some false)
    (i_Denial_Uneven : PySem.W.kitOne K (.ref C_Denial) (.ref C_Uneven) = some false)
    (io_Denial_list : PySem.W.kitOne K (.ref C_Denial) (.type "list") = some false)
    (io_Denial_tuple : PySem.W.kitOne K (.ref C_Denial) (.type "tuple") = some false)
    (io_Denial_int : PySem.W.kitOne K (.ref C_Denial) (.type "int") = some false)
    (io_Denial_bool : PySem.W.kitOne K (.ref C_Denial) (.type "bool") = some false)
    (b1_Denial : PySem.W.findIn K (.ref C_Denial) "__bool__" = some (some (.ref f4)))
    (b2_Denial : PySem.W.isFn K (.ref f4) = true)
    (e1_Denial : PySem.W.findIn K (.ref C_Denial) "__eq__" = some (some (.ref f3)))
    (e2_Denial : PySem.W.isFn K (.ref f3) = true)
    (e3_Denial : PySem.W.findIn K (.ref C_Denial) "__ne__" = some (some (.builtin "object.__ne__")))
    (e4_Denial_Whole : PySem.W.notFirst K C_Denial (.ref C_Whole) = true)
    (e4_Denial_ByPower : PySem.W.notFirst K C_Denial (.ref C_ByPower) = true)
    (e4_Denial_Paper : PySem.W.notFirst K C_Denial (.ref C_Paper) = true)
    (e4_Denial_Denial : PySem.W.notFirst K C_Denial (.ref C_Denial) = true)
    (ib_NoneType_Paper : PySem.W.kitOne K (.type "NoneType") (.ref C_Paper) = some false)
    (ib_NoneType_NoWhole : PySem.W.kitOne K (.type "NoneType") (.ref C_NoWhole) = some false)
    (ib_NoneType_Between : PySem.W.kitOne K (.type "NoneType") (.ref C_Between) = some false)
    (ib_NoneType_ByPower : PySem.W.kitOne K (.type "NoneType") (.ref C_ByPower) = some false)
    (ib_NoneType_Uneven : PySem.W.kitOne K (.type "NoneType") (.ref C_Uneven) = some false)
    (ib_bool_Paper : PySem.W.kitOne K (.type "bool") (.ref C_Paper) = some false)
    (ib_bool_NoWhole : PySem.W.kitOne K (.type "bool") (.ref C_NoWhole) = some false)
    (ib_bool_Between : PySem.W.kitOne K (.type "bool") (.ref C_Between) = some false)
    (ib_bool_ByPower : PySem.W.kitOne K (.type "bool") (.ref C_ByPower) = some false)
    (ib_bool_Uneven : PySem.W.kitOne K (.type "bool") (.ref C_Uneven) = some false)
    (ib_int_Paper : PySem.W.kitOne K (.type "int") (.ref C_Paper) = some false)
    (ib_int_NoWhole : PySem.W.kitOne K (.type "int") (.ref C_NoWhole) = some false)
    (ib_int_Between : PySem.W.kitOne K (.type "int") (.ref C_Between) = some false)
    (ib_int_ByPower : PySem.W.kitOne K (.type "int") (.ref C_ByPower) = some false)
    (ib_int_Uneven : PySem.W.kitOne K (.type "int") (.ref C_Uneven) = some false)
    (ib_str_Paper : PySem.W.kitOne K (.type "str") (.ref C_Paper) = some false)
    (ib_str_NoWhole : PySem.W.kitOne K (.type "str") (.ref C_NoWhole) = some false)
    (ib_str_Between : PySem.W.kitOne K (.type "str") (.ref C_Between) = some false)
    (ib_str_ByPower : PySem.W.kitOne K (.type "str") (.ref C_ByPower) = some false)
    (ib_str_Uneven : PySem.W.kitOne K (.type "str") (.ref C_Uneven) = some false)
    (ib_list_Paper : PySem.W.kitOne K (.type "list") (.ref C_Paper) = some false)
    (ib_list_NoWhole : PySem.W.kitOne K (.type "list") (.ref C_NoWhole) = some false)
    (ib_list_Between : PySem.W.kitOne K (.type "list") (.ref C_Between) = some false)
    (ib_list_ByPower : PySem.W.kitOne K (.type "list") (.ref C_ByPower) = some false)
    (ib_list_Uneven : PySem.W.kitOne K (.type "list") (.ref C_Uneven) = some false)
    (ib_tuple_Paper : PySem.W.kitOne K (.type "tuple") (.ref C_Paper) = some false)
    (ib_tuple_NoWhole : PySem.W.kitOne K (.type "tuple") (.ref C_NoWhole) = some false)
    (ib_tuple_Between : PySem.W.kitOne K (.type "tuple") (.ref C_Between) = some false)
    (ib_tuple_ByPower : PySem.W.kitOne K (.type "tuple") (.ref C_ByPower) = some false)
    (ib_tuple_Uneven : PySem.W.kitOne K (.type "tuple") (.ref C_Uneven) = some false)
    (z_abs : PySem.W.nsIn K mainGlobals "abs" = some none)
    (z_all : PySem.W.nsIn K mainGlobals "all" = some none)
    (z_bool : PySem.W.nsIn K mainGlobals "bool" = some none)
    (z_int : PySem.W.nsIn K mainGlobals "int" = some none)
    (z_isinstance : PySem.W.nsIn K mainGlobals "isinstance" = some none)
    (z_len : PySem.W.nsIn K mainGlobals "len" = some none)
    (z_list : PySem.W.nsIn K mainGlobals "list" = some none)
    (z_max : PySem.W.nsIn K mainGlobals "max" = some none)
    (z_range : PySem.W.nsIn K mainGlobals "range" = some none)
    (z_repr : PySem.W.nsIn K mainGlobals "repr" = some none)
    (z_set : PySem.W.nsIn K mainGlobals "set" = some none)
    (z_sorted : PySem.W.nsIn K mainGlobals "sorted" = some none)
    (z_str : PySem.W.nsIn K mainGlobals "str" = some none)
    (z_tuple : PySem.W.nsIn K mainGlobals "tuple" = some none)
    (z_zip : PySem.W.nsIn K mainGlobals "zip" = some none)
    {t_MOST_POWER : Tok} (c_MOST_POWER : PySem.W.nsIn K mainGlobals "MOST_POWER" = some (some (.int 80 t_MOST_POWER)))
    {t_MOST_TOLD : Tok} (c_MOST_TOLD : PySem.W.nsIn K mainGlobals "MOST_TOLD" = some (some (.int 99 t_MOST_TOLD)))
    {t_MOST_IN_ROW : Tok} (c_MOST_IN_ROW : PySem.W.nsIn K mainGlobals "MOST_IN_ROW" = some (some (.int 12 t_MOST_IN_ROW))) :
    ∃ fd : FuncData, (∀ (s : Shared) (v : Value), BindsTo s fd ⟨[v], []⟩ [("script", v)]) ∧ ∀ base : Heap, K.In base → base.Ns mainGlobals mg → HV.FnG l.prog w K mg base 10 fa fd ["script"] (sp_law K) := by
  have e := hfa.symm.trans (PySem.W.mg_of X G a44)
  cases e
  have F0 := fun_mk (st := s_fixed) l0 c0 k0
  have b0 := F0.binds (ps := ["value"]) fun _ _ _ _ _ _ us hl => match us, hl with | [_], _ => rfl
  have F2 := fun_mk (st := s_Paper_bool) l2 c2 k2
  have b2 := F2.binds (ps := ["self"]) fun _ _ _ _ _ _ us hl => match us, hl with | [_], _ => rfl
  have F3 := fun_mk (st := s_Paper_eq) l3 c3 k3
  have b3 := F3.binds (ps := ["self", "other"]) fun _ _ _ _ _ _ us hl => match us, hl with | [_, _], _ => rfl
  have F4 := fun_mk (st := s_Denial_bool) l4 c4 k4
  have b4 := F4.binds (ps := ["self"]) fun _ _ _ _ _ _ us hl => match us, hl with | [_], _ => rfl
  have F5 := fun_mk (st := s_is_integer) l5 c5 k5
  have b5 := F5.binds (ps := ["value"]) fun _ _ _ _ _ _ us hl => match us, hl with | [_], _ => rfl
  have F6 := fun_mk (st := s_is_within) l6 c6 k6
  have b6 := F6.binds (ps := ["value", "least", "most"]) fun _ _ _ _ _ _ us hl => match us, hl with | [_, _, _], _ => rfl
  have F7 := fun_mk (st := s_is_row) l7 c7 k7
  have b7 := F7.binds (ps := ["value"]) fun _ _ _ _ _ _ us hl => match us, hl with | [_], _ => rfl
  have F10 := fun_mk (st := s_need_number) l10 c10 k10
  have b10 := F10.binds (ps := ["value", "part", "least", "most"]) fun _ _ _ _ _ _ us hl => match us, hl with | [_, _, _, _], _ => rfl
  have F11 := fun_mk (st := s_need_power) l11 c11 k11
  have b11 := F11.binds (ps := ["power"]) fun _ _ _ _ _ _ us hl => match us, hl with | [_], _ => rfl
  have F12 := fun_mk (st := s_raised) l12 c12 k12
  have b12 := F12.binds (ps := ["number", "many"]) fun _ _ _ _ _ _ us hl => match us, hl with | [_, _], _ => rfl
  have F13 := fun_mk (st := s_lifted) l13 c13 k13
  have b13 := F13.binds (ps := ["a", "b", "c", "d", "power"]) fun _ _ _ _ _ _ us hl => match us, hl with | [_, _, _, _, _], _ => rfl
  have F14 := fun_mk (st := s_sum_at) l14 c14 k14
  have b14 := F14.binds (ps := ["a", "b", "c", "d", "power"]) fun _ _ _ _ _ _ us hl => match us, hl with | [_, _, _, _, _], _ => rfl
  have F15 := fun_mk (st := s_holds_by) l15 c15 k15
  have b15 := F15.binds (ps := ["a", "b", "c", "d", "power"]) fun _ _ _ _ _ _ us hl => match us, hl with | [_, _, _, _, _], _ => rfl
  have F16 := fun_mk (st := s_wanted) l16 c16 k16
  have b16 := F16.binds (ps := ["a", "b", "c", "power"]) fun _ _ _ _ _ _ us hl => match us, hl with | [_, _, _, _], _ => rfl
  have F17 := fun_mk (st := s_root_below) l17 c17 k17
  have b17 := F17.binds (ps := ["rest", "part", "many", "high"]) fun _ _ _ _ _ _ us hl => match us, hl with | [_, _, _, _], _ => rfl
  have F18 := fun_mk (st := s_fourth_found) l18 c18 k18
  have b18 := F18.binds (ps := ["a", "b", "c", "power"]) fun _ _ _ _ _ _ us hl => match us, hl with | [_, _, _, _], _ => rfl
  have F21 := fun_mk (st := s_need_growing) l21 c21 k21
  have b21 := F21.binds (ps := ["a", "b", "c", "d"]) fun _ _ _ _ _ _ us hl => match us, hl with | [_, _, _, _], _ => rfl
  have F22 := fun_mk (st := s_least_step) l22 c22 k22
  have b22 := F22.binds (ps := ["a", "b", "c", "d", "side"]) fun _ _ _ _ _ _ us hl => match us, hl with | [_, _, _, _, _], _ => rfl
  have F23 := fun_mk (st := s_power_of) l23 c23 k23
  have b23 := F23.binds (ps := ["a", "b", "c", "d"]) fun _ _ _ _ _ _ us hl => match us, hl with | [_, _, _, _], _ => rfl
  have F25 := fun_mk (st := s_numbers_by) l25 c25 k25
  have b25 := F25.binds (ps := ["first", "second", "many", "power"]) fun _ _ _ _ _ _ us hl => match us, hl with | [_, _, _, _], _ => rfl
  have F26 := fun_mk (st := s_need_numbers) l26 c26 k26
  have b26 := F26.binds (ps := ["numbers"]) fun _ _ _ _ _ _ us hl => match us, hl with | [_], _ => rfl
  have F27 := fun_mk (st := s_step_power) l27 c27 k27
  have b27 := F27.binds (ps := ["numbers"]) fun _ _ _ _ _ _ us hl => match us, hl with | [_], _ => rfl
  have F28 := fun_mk (st := s_is_step_by) l28 c28 k28
  have b28 := F28.binds (ps := ["numbers", "step", "power"]) fun _ _ _ _ _ _ us hl => match us, hl with | [_, _, _], _ => rfl
  have F29 := fun_mk (st := s_power_of_row) l29 c29 k29
  have b29 := F29.binds (ps := ["numbers"]) fun _ _ _ _ _ _ us hl => match us, hl with | [_], _ => rfl
  have kb_power_of_row_numbers := HB.kb_mk (K := K) (fd := PySem.W.fnOf "power_of_row" "power_of_row" (defArgs s_power_of_row) (defBody s_power_of_row) (defScope s_power_of_row) .none kV29 dc29 pm29 an29 cd29 ct29) (ps := ["numbers"]) (ks := ["numbers"]) (idx := [0]) (by rfl) (fun ws hl => match ws, hl with | [_], _ => rfl) HB.perm_rel
  have F30 := fun_mk (st := s_shows_power_of_row) l30 c30 k30
  have b30 := F30.binds (ps := ["numbers", "value"]) fun _ _ _ _ _ _ us hl => match us, hl with | [_, _], _ => rfl
  have kb_shows_power_of_row_value_numbers := HB.kb_mk (K := K) (fd := PySem.W.fnOf "shows_power_of_row" "shows_power_of_row" (defArgs s_shows_power_of_row) (defBody s_shows_power_of_row) (defScope s_shows_power_of_row) .none kV30 dc30 pm30 an30 cd30 ct30) (ps := ["numbers", "value"]) (ks := ["value", "numbers"]) (idx := [1, 0]) (by rfl) (fun ws hl => match ws, hl with | [_, _], _ => rfl) HB.perm_rel
  have F31 := fun_mk (st := s__law_hat) l31 c31 k31
  have b31 := F31.binds (ps := ["script"]) fun _ _ _ _ _ _ us hl => match us, hl with | [_], _ => rfl
  have F32 := fun_mk (st := s__law_lot) l32 c32 k32
  have b32 := F32.binds (ps := ["hat", "many"]) fun _ _ _ _ _ _ us hl => match us, hl with | [_, _], _ => rfl
  have F33 := fun_mk (st := s__law_one) l33 c33 k33
  have b33 := F33.binds (ps := ["hat", "some"]) fun _ _ _ _ _ _ us hl => match us, hl with | [_, _], _ => rfl
  have F34 := fun_mk (st := s__law_raised) l34 c34 k34
  have b34 := F34.binds (ps := ["number", "many"]) fun _ _ _ _ _ _ us hl => match us, hl with | [_, _], _ => rfl
  have F35 := fun_mk (st := s__law_wanted) l35 c35 k35
  have b35 := F35.binds (ps := ["a", "b", "c", "power"]) fun _ _ _ _ _ _ us hl => match us, hl with | [_, _, _, _], _ => rfl
  have F36 := fun_mk (st := s__law_behind) l36 c36 k36
  have b36 := F36.binds (ps := ["one", "other", "power"]) fun _ _ _ _ _ _ us hl => match us, hl with | [_, _, _], _ => rfl
  have F37 := fun_mk (st := s__law_begun) l37 c37 k37
  have b37 := F37.binds (ps := ["hat"]) fun _ _ _ _ _ _ us hl => match us, hl with | [_], _ => rfl
  have F38 := fun_mk (st := s__law_gone_on) l38 c38 k38
  have b38 := F38.binds (ps := ["first", "second", "many", "power"]) fun _ _ _ _ _ _ us hl => match us, hl with | [_, _, _, _], _ => rfl
  have F39 := fun_mk (st := s__law_is_by) l39 c39 k39
  have b39 := F39.binds (ps := ["numbers", "step", "power"]) fun _ _ _ _ _ _ us hl => match us, hl with | [_, _, _], _ => rfl
  have F40 := fun_mk (st := s__law_power) l40 c40 k40
  have b40 := F40.binds (ps := ["one", "middle", "other"]) fun _ _ _ _ _ _ us hl => match us, hl with | [_, _, _], _ => rfl
  have F41 := fun_mk (st := s__law_row) l41 c41 k41
  have b41 := F41.binds (ps := ["hat"]) fun _ _ _ _ _ _ us hl => match us, hl with | [_], _ => rfl
  have F42 := fun_mk (st := s__law_due) l42 c42 k42
  have b42 := F42.binds (ps := ["row"]) fun _ _ _ _ _ _ us hl => match us, hl with | [_], _ => rfl
  have F43 := fun_mk (st := s__law_told) l43 c43 k43
  have b43 := F43.binds (ps := ["paper"]) fun _ _ _ _ _ _ us hl => match us, hl with | [_], _ => rfl
  have F44 := fun_mk (st := s_law) l44 c44 k44
  have b44 := F44.binds (ps := ["script"]) fun _ _ _ _ _ _ us hl => match us, hl with | [_], _ => rfl
  let T : Tx l.prog K mg := {
    C_Paper := C_Paper
    g_Paper := PySem.W.mg_of X G a_Paper
    C_Denial := C_Denial
    g_Denial := PySem.W.mg_of X G a_Denial
    C_Whole := C_Whole
    g_Whole := PySem.W.mg_of X G a_Whole
    C_NoWhole := C_NoWhole
    g_NoWhole := PySem.W.mg_of X G a_NoWhole
    C_ByPower := C_ByPower
    g_ByPower := PySem.W.mg_of X G a_ByPower
    C_Between := C_Between
    g_Between := PySem.W.mg_of X G a_Between
    C_Uneven := C_Uneven
    g_Uneven := PySem.W.mg_of X G a_Uneven
    f_fixed := _
    fd_fixed := _
    F_fixed := F0
    b_fixed := b0
    g_fixed := PySem.W.mg_of X G a0
    f_Paper_init := f1
    SF_Paper_init := ⟨⟨oc1, od1, .none, kV1, dc1, pm1, an1, cd1, ct1, sl1, l1, c1, StX.bind_star2 (B := fun xs => bindArgs (PySem.W.fnOf "__init__" "Paper.__init__" (defArgs s_Paper_init) (defBody s_Paper_init) (defScope s_Paper_init) .none kV1 dc1 pm1 an1 cd1 ct1) ⟨xs, []⟩) (fun _ _ => rfl) (fun _ _ _ _ => rfl)⟩⟩
    f_Paper_bool := _
    fd_Paper_bool := _
    F_Paper_bool := F2
    b_Paper_bool := b2
    f_Paper_eq := _
    fd_Paper_eq := _
    F_Paper_eq := F3
    b_Paper_eq := b3
    f_Denial_bool := _
    fd_Denial_bool := _
    F_Denial_bool := F4
    b_Denial_bool := b4
    f_is_integer := _
    fd_is_integer := _
    F_is_integer := F5
    b_is_integer := b5
    g_is_integer := PySem.W.mg_of X G a5
    f_is_within := _
    fd_is_within := _
    F_is_within := F6
    b_is_within := b6
    g_is_within := PySem.W.mg_of X G a6
    f_is_row := _
    fd_is_row := _
    F_is_row := F7
    b_is_row := b7
    g_is_row := PySem.W.mg_of X G a7
    f_Whole_init := f8
    cc_Whole_init := cc8
    ca_Whole_init := ca8
    SD_Whole_init := ⟨⟨oc8, od8, .none, kV8, dc8, pm8, ct8, an8, sl8, l8, fun us hl => match us, hl with | [_, _], _ => (by kernel_rfl), fun us hl => match us, hl with | [_, _], _ => (by kernel_rfl)⟩, c8, rfl, ⟨xcl8, xcd8, xvs8, xcs8, file8, tf8, x8, u8, v8⟩, ⟨ycl8, ycd8, ycs8, y8⟩, ⟨_, w8⟩, PySem.W.mg_none_of X G z_super, t_super⟩
    f_NoWhole_init := f9
    cc_NoWhole_init := cc9
    ca_NoWhole_init := ca9
    SD_NoWhole_init := ⟨⟨oc9, od9, .none, kV9, dc9, pm9, ct9, an9, sl9, l9, fun us hl => match us, hl with | [_, _], _ => (by kernel_rfl), fun us hl => match us, hl with | [_, _], _ => (by kernel_rfl)⟩, c9, rfl, ⟨xcl9, xcd9, xvs9, xcs9, file9, tf9, x9, u9, v9⟩, ⟨ycl9, ycd9, ycs9, y9⟩, ⟨_, w9⟩, PySem.W.mg_none_of X G z_super, t_super⟩
    f_need_number := _
    fd_need_number := _
    F_need_number := F10
    b_need_number := b10
    g_need_number := PySem.W.mg_of X G a10
    f_need_power := _
    fd_need_power := _
    F_need_power := F11
    b_need_power := b11
    g_need_power := PySem.W.mg_of X G a11
    f_raised := _
    fd_raised := _
    F_raised := F12
    b_raised := b12
    g_raised := PySem.W.mg_of X G a12
    f_lifted := _
    fd_lifted := _
    F_lifted := F13
    b_lifted := b13
    g_lifted := PySem.W.mg_of X G a13
    f_sum_at := _
    fd_sum_at := _
    F_sum_at := F14
    b_sum_at := b14
    g_sum_at := PySem.W.mg_of X G a14
    f_holds_by := _
    fd_holds_by := _
    F_holds_by := F15
    b_holds_by := b15
    g_holds_by := PySem.W.mg_of X G a15
    f_wanted := _
    fd_wanted := _
    F_wanted := F16
    b_wanted := b16
    g_wanted := PySem.W.mg_of X G a16
    f_root_below := _
    fd_root_below := _
    F_root_below := F17
    b_root_below := b17
    g_root_below := PySem.W.mg_of X G a17
    f_fourth_found := _
    fd_fourth_found := _
    F_fourth_found := F18
    b_fourth_found := b18
    g_fourth_found := PySem.W.mg_of X G a18
    f_ByPower_init := f19
    cc_ByPower_init := cc19
    ca_ByPower_init := ca19
    SD_ByPower_init := ⟨⟨oc19, od19, .none, kV19, dc19, pm19, ct19, an19, sl19, l19, fun us hl => match us, hl with | [_, _], _ => (by kernel_rfl), fun us hl => match us, hl with | [_, _], _ => (by kernel_rfl)⟩, c19, rfl, ⟨xcl19, xcd19, xvs19, xcs19, file19, tf19, x19, u19, v19⟩, ⟨ycl19, ycd19, ycs19, y19⟩, ⟨_, w19⟩, PySem.W.mg_none_of X G z_super, t_super⟩
    f_Between_init := f20
    cc_Between_init := cc20
    ca_Between_init := ca20
    SD_Between_init := ⟨⟨oc20, od20, .none, kV20, dc20, pm20, ct20, an20, sl20, l20, fun us hl => match us, hl with | [_, _], _ => (by kernel_rfl), fun us hl => match us, hl with | [_, _], _ => (by kernel_rfl)⟩, c20, rfl, ⟨xcl20, xcd20, xvs20, xcs20, file20, tf20, x20, u20, v20⟩, ⟨ycl20, ycd20, ycs20, y20⟩, ⟨_, w20⟩, PySem.W.mg_none_of X G z_super, t_super⟩
    f_need_growing := _
    fd_need_growing := _
    F_need_growing := F21
    b_need_growing := b21
    g_need_growing := PySem.W.mg_of X G a21
    f_least_step := _
    fd_least_step := _
    F_least_step := F22
    b_least_step := b22
    g_least_step := PySem.W.mg_of X G a22
    f_power_of := _
    fd_power_of := _
    F_power_of := F23
    b_power_of := b23
    g_power_of := PySem.W.mg_of X G a23
    f_Uneven_init := f24
    cc_Uneven_init := cc24
    ca_Uneven_init := ca24
    SD_Uneven_init := ⟨⟨oc24, od24, .none, kV24, dc24, pm24, ct24, an24, sl24, l24, fun us hl => match us, hl with | [_, _], _ => (by kernel_rfl), fun us hl => match us, hl with | [_, _], _ => (by kernel_rfl)⟩, c24, rfl, ⟨xcl24, xcd24, xvs24, xcs24, file24, tf24, x24, u24, v24⟩, ⟨ycl24, ycd24, ycs24, y24⟩, ⟨_, w24⟩, PySem.W.mg_none_of X G z_super, t_super⟩
    f_numbers_by := _
    fd_numbers_by := _
    F_numbers_by := F25
    b_numbers_by := b25
    g_numbers_by := PySem.W.mg_of X G a25
    f_need_numbers := _
    fd_need_numbers := _
    F_need_numbers := F26
    b_need_numbers := b26
    g_need_numbers := PySem.W.mg_of X G a26
    f_step_power := _
    fd_step_power := _
    F_step_power := F27
    b_step_power := b27
    g_step_power := PySem.W.mg_of X G a27
    f_is_step_by := _
    fd_is_step_by := _
    F_is_step_by := F28
    b_is_step_by := b28
    g_is_step_by := PySem.W.mg_of X G a28
    f_power_of_row := _
    fd_power_of_row := _
    F_power_of_row := F29
    b_power_of_row := b29
    g_power_of_row := PySem.W.mg_of X G a29
    kb_power_of_row_numbers := kb_power_of_row_numbers
    f_shows_power_of_row := _
    fd_shows_power_of_row := _
    F_shows_power_of_row := F30
    b_shows_power_of_row := b30
    g_shows_power_of_row := PySem.W.mg_of X G a30
    kb_shows_power_of_row_value_numbers := kb_shows_power_of_row_value_numbers
    f__law_hat := _
    fd__law_hat := _
    F__law_hat := F31
    b__law_hat := b31
    g__law_hat := PySem.W.mg_of X G a31
    f__law_lot := _
    fd__law_lot := _
    F__law_lot := F32
    b__law_lot := b32
    g__law_lot := PySem.W.mg_of X G a32
    f__law_one := _
    fd__law_one := _
    F__law_one := F33
    b__law_one := b33
    g__law_one := PySem.W.mg_of X G a33
    f__law_raised := _
    fd__law_raised := _
    F__law_raised := F34
    b__law_raised := b34
    g__law_raised := PySem.W.mg_of X G a34
    f__law_wanted := _
    fd__law_wanted := _
    F__law_wanted := F35
    b__law_wanted := b35
    g__law_wanted := PySem.W.mg_of X G a35
    f__law_behind := _
    fd__law_behind := _
    F__law_behind := F36
    b__law_behind := b36
    g__law_behind := PySem.W.mg_of X G a36
    f__law_begun := _
    fd__law_begun := _
    F__law_begun := F37
    b__law_begun := b37
    g__law_begun := PySem.W.mg_of X G a37
    f__law_gone_on := _
    fd__law_gone_on := _
    F__law_gone_on := F38
    b__law_gone_on := b38
    g__law_gone_on := PySem.W.mg_of X G a38
    f__law_is_by := _
    fd__law_is_by := _
    F__law_is_by := F39
    b__law_is_by := b39
    g__law_is_by := PySem.W.mg_of X G a39
    f__law_power := _
    fd__law_power := _
    F__law_power := F40
    b__law_power := b40
    g__law_power := PySem.W.mg_of X G a40
    f__law_row := _
    fd__law_row := _
    F__law_row := F41
    b__law_row := b41
    g__law_row := PySem.W.mg_of X G a41
    f__law_due := _
    fd__law_due := _
    F__law_due := F42
    b__law_due := b42
    g__law_due := PySem.W.mg_of X G a42
    f__law_told := _
    fd__law_told := _
    F__law_told := F43
    b__law_told := b43
    g__law_told := PySem.W.mg_of X G a43
    f_law := _
    fd_law := _
    F_law := F44
    b_law := b44
    g_law := PySem.W.mg_of X G a44
    mk_NoWhole := ⟨mk1_NoWhole, mk2_NoWhole, mk3_NoWhole, mk4_NoWhole⟩
    pc_NoWhole := ⟨⟨p1_NoWhole, p2_NoWhole, p3_NoWhole, p4_NoWhole⟩, ⟨p5_NoWhole, p2_NoWhole, p6_NoWhole, oG, oT, p7_NoWhole⟩, ⟨p8_NoWhole, p9_NoWhole, ⟨_, _, _, _, p10_NoWhole, p11_NoWhole⟩⟩, p12_NoWhole, p13_NoWhole, p14_NoWhole⟩
    su_NoWhole_NoWhole := ⟨s1_NoWhole_NoWhole, s2_NoWhole_NoWhole, s3_NoWhole_NoWhole, s4_NoWhole_NoWhole, oS⟩
    na_NoWhole_low := n_NoWhole_low
    is_NoWhole_Paper := i_NoWhole_Paper
    is_NoWhole_NoWhole := i_NoWhole_NoWhole
    is_NoWhole_Between := i_NoWhole_Between
    is_NoWhole_ByPower := i_NoWhole_ByPower
    is_NoWhole_Uneven := i_NoWhole_Uneven
    io_NoWhole_list := io_NoWhole_list
    io_NoWhole_tuple := io_NoWhole_tuple
    io_NoWhole_int := io_NoWhole_int
    io_NoWhole_bool := io_NoWhole_bool
    bc_NoWhole := ⟨b1_NoWhole, b2_NoWhole⟩
    eq_NoWhole_NoWhole := ⟨e1_NoWhole, e2_NoWhole, e4_NoWhole_NoWhole, e3_NoWhole, p7_NoWhole⟩
    eq_NoWhole_Whole := ⟨e1_NoWhole, e2_NoWhole, e4_NoWhole_Whole, e3_NoWhole, p7_NoWhole⟩
    eq_NoWhole_Between := ⟨e1_NoWhole, e2_NoWhole, e4_NoWhole_Between, e3_NoWhole, p7_NoWhole⟩
    eq_NoWhole_ByPower := ⟨e1_NoWhole, e2_NoWhole, e4_NoWhole_ByPower, e3_NoWhole, p7_NoWhole⟩
    eq_NoWhole_Uneven := ⟨e1_NoWhole, e2_NoWhole, e4_NoWhole_Uneven, e3_NoWhole, p7_NoWhole⟩
    eq_NoWhole_Paper := ⟨e1_NoWhole, e2_NoWhole, e4_NoWhole_Paper, e3_NoWhole, p7_NoWhole⟩
    eq_NoWhole_Denial := ⟨e1_NoWhole, e2_NoWhole, e4_NoWhole_Denial, e3_NoWhole, p7_NoWhole⟩
    mk_Whole := ⟨mk1_Whole, mk2_Whole, mk3_Whole, mk4_Whole⟩
    pc_Whole := ⟨⟨p1_Whole, p2_Whole, p3_Whole, p4_Whole⟩, ⟨p5_Whole, p2_Whole, p6_Whole, oG, oT, p7_Whole⟩, ⟨p8_Whole, p9_Whole, ⟨_, _, _, _, p10_Whole, p11_Whole⟩⟩, p12_Whole, p13_Whole, p14_Whole⟩
    su_Whole_Whole := ⟨s1_Whole_Whole, s2_Whole_Whole, s3_Whole_Whole, s4_Whole_Whole, oS⟩
    na_Whole_number := n_Whole_number
    is_Whole_Paper := i_Whole_Paper
    is_Whole_NoWhole := i_Whole_NoWhole
    is_Whole_Between := i_Whole_Between
    is_Whole_ByPower := i_Whole_ByPower
    is_Whole_Uneven := i_Whole_Uneven
    io_Whole_list := io_Whole_list
    io_Whole_tuple := io_Whole_tuple
    io_Whole_int := io_Whole_int
    io_Whole_bool := io_Whole_bool
    bc_Whole := ⟨b1_Whole, b2_Whole⟩
    eq_Whole_NoWhole := ⟨e1_Whole, e2_Whole, e4_Whole_NoWhole, e3_Whole, p7_Whole⟩
    eq_Whole_Whole := ⟨e1_Whole, e2_Whole, e4_Whole_Whole, e3_Whole, p7_Whole⟩
    eq_Whole_Between := ⟨e1_Whole, e2_Whole, e4_Whole_Between, e3_Whole, p7_Whole⟩
    eq_Whole_ByPower := ⟨e1_Whole, e2_Whole, e4_Whole_ByPower, e3_Whole, p7_Whole⟩
    eq_Whole_Uneven := ⟨e1_Whole, e2_Whole, e4_Whole_Uneven, e3_Whole, p7_Whole⟩
    eq_Whole_Paper := ⟨e1_Whole, e2_Whole, e4_Whole_Paper, e3_Whole, p7_Whole⟩
    eq_Whole_Denial := ⟨e1_Whole, e2_Whole, e4_Whole_Denial, e3_Whole, p7_Whole⟩
    mk_Between := ⟨mk1_Between, mk2_Between, mk3_Between, mk4_Between⟩
    pc_Between := ⟨⟨p1_Between, p2_Between, p3_Between, p4_Between⟩, ⟨p5_Between, p2_Between, p6_Between, oG, oT, p7_Between⟩, ⟨p8_Between, p9_Between, ⟨_, _, _, _, p10_Between, p11_Between⟩⟩, p12_Between, p13_Between, p14_Between⟩
    su_Between_Between := ⟨s1_Between_Between, s2_Between_Between, s3_Between_Between, s4_Between_Between, oS⟩
    na_Between_low := n_Between_low
    is_Between_Paper := i_Between_Paper
    is_Between_NoWhole := i_Between_NoWhole
    is_Between_Between := i_Between_Between
    is_Between_ByPower := i_Between_ByPower
    is_Between_Uneven := i_Between_Uneven
    io_Between_list := io_Between_list
    io_Between_tuple := io_Between_tuple
    io_Between_int := io_Between_int
    io_Between_bool := io_Between_bool
    bc_Between := ⟨b1_Between, b2_Between⟩
    eq_Between_NoWhole := ⟨e1_Between, e2_Between, e4_Between_NoWhole, e3_Between, p7_Between⟩
    eq_Between_Whole := ⟨e1_Between, e2_Between, e4_Between_Whole, e3_Between, p7_Between⟩
    eq_Between_Between := ⟨e1_Between, e2_Between, e4_Between_Between, e3_Between, p7_Between⟩
    eq_Between_ByPower := ⟨e1_Between, e2_Between, e4_Between_ByPower, e3_Between, p7_Between⟩
    eq_Between_Uneven := ⟨e1_Between, e2_Between, e4_Between_Uneven, e3_Between, p7_Between⟩
    eq_Between_Paper := ⟨e1_Between, e2_Between, e4_Between_Paper, e3_Between, p7_Between⟩
    eq_Between_Denial := ⟨e1_Between, e2_Between, e4_Between_Denial, e3_Between, p7_Between⟩
    mk_ByPower := ⟨mk1_ByPower, mk2_ByPower, mk3_ByPower, mk4_ByPower⟩
    pc_ByPower := ⟨⟨p1_ByPower, p2_ByPower, p3_ByPower, p4_ByPower⟩, ⟨p5_ByPower, p2_ByPower, p6_ByPower, oG, oT, p7_ByPower⟩, ⟨p8_ByPower, p9_ByPower, ⟨_, _, _, _, p10_ByPower, p11_ByPower⟩⟩, p12_ByPower, p13_ByPower, p14_ByPower⟩
    su_ByPower_ByPower := ⟨s1_ByPower_ByPower, s2_ByPower_ByPower, s3_ByPower_ByPower, s4_ByPower_ByPower, oS⟩
    na_ByPower_power := n_ByPower_power
    is_ByPower_Paper := i_ByPower_Paper
    is_ByPower_NoWhole := i_ByPower_NoWhole
    is_ByPower_Between := i_ByPower_Between
    is_ByPower_ByPower := i_ByPower_ByPower
    is_ByPower_Uneven := i_ByPower_Uneven
    io_ByPower_list := io_ByPower_list
    io_ByPower_tuple := io_ByPower_tuple
    io_ByPower_int := io_ByPower_int
    io_ByPower_bool := io_ByPower_bool
    bc_ByPower := ⟨b1_ByPower, b2_ByPower⟩
    eq_ByPower_NoWhole := ⟨e1_ByPower, e2_ByPower, e4_ByPower_NoWhole, e3_ByPower, p7_ByPower⟩
    eq_ByPower_Whole := ⟨e1_ByPower, e2_ByPower, e4_ByPower_Whole, e3_ByPower, p7_ByPower⟩
    eq_ByPower_Between := ⟨e1_ByPower, e2_ByPower, e4_ByPower_Between, e3_ByPower, p7_ByPower⟩
    eq_ByPower_ByPower := ⟨e1_ByPower, e2_ByPower, e4_ByPower_ByPower, e3_ByPower, p7_ByPower⟩
    eq_ByPower_Uneven := ⟨e1_ByPower, e2_ByPower, e4_ByPower_Uneven, e3_ByPower, p7_ByPower⟩
    eq_ByPower_Paper := ⟨e1_ByPower, e2_ByPower, e4_ByPower_Paper, e3_ByPower, p7_ByPower⟩
    eq_ByPower_Denial := ⟨e1_ByPower, e2_ByPower, e4_ByPower_Denial, e3_ByPower, p7_ByPower⟩
    mk_Uneven := ⟨mk1_Uneven, mk2_Uneven, mk3_Uneven, mk4_Uneven⟩
    pc_Uneven := ⟨⟨p1_Uneven, p2_Uneven, p3_Uneven, p4_Uneven⟩, ⟨p5_Uneven, p2_Uneven, p6_Uneven, oG, oT, p7_Uneven⟩, ⟨p8_Uneven, p9_Uneven, ⟨_, _, _, _, p10_Uneven, p11_Uneven⟩⟩, p12_Uneven, p13_Uneven, p14_Uneven⟩
    su_Uneven_Uneven := ⟨s1_Uneven_Uneven, s2_Uneven_Uneven, s3_Uneven_Uneven, s4_Uneven_Uneven, oS⟩
    na_Uneven_step := n_Uneven_step
    is_Uneven_Paper := i_Uneven_Paper
    is_Uneven_NoWhole := i_Uneven_NoWhole
    is_Uneven_Between := i_Uneven_Between
    is_Uneven_ByPower := i_Uneven_ByPower
    is_Uneven_Uneven := i_Uneven_Uneven
    io_Uneven_list := io_Uneven_list
    io_Uneven_tuple := io_Uneven_tuple
    io_Uneven_int := io_Uneven_int
    io_Uneven_bool := io_Uneven_bool
    bc_Uneven := ⟨b1_Uneven, b2_Uneven⟩
    eq_Uneven_NoWhole := ⟨e1_Uneven, e2_Uneven, e4_Uneven_NoWhole, e3_Uneven, p7_Uneven⟩
    eq_Uneven_Whole := ⟨e1_Uneven, e2_Uneven, e4_Uneven_Whole, e3_Uneven, p7_Uneven⟩
    eq_Uneven_Between := ⟨e1_Uneven, e2_Uneven, e4_Uneven_Between, e3_Uneven, p7_Uneven⟩
    eq_Uneven_ByPower := ⟨e1_Uneven, e2_Uneven, e4_Uneven_ByPower, e3_Uneven, p7_Uneven⟩
    eq_Uneven_Uneven := ⟨e1_Uneven, e2_Uneven, e4_Uneven_Uneven, e3_Uneven, p7_Uneven⟩
    eq_Uneven_Paper := ⟨e1_Uneven, e2_Uneven, e4_Uneven_Paper, e3_Uneven, p7_Uneven⟩
    eq_Uneven_Denial := ⟨e1_Uneven, e2_Uneven, e4_Uneven_Denial, e3_Uneven, p7_Uneven⟩
    mk_Paper := ⟨mk1_Paper, mk2_Paper, mk3_Paper, mk4_Paper⟩
    pc_Paper := ⟨⟨p1_Paper, p2_Paper, p3_Paper, p4_Paper⟩, ⟨p5_Paper, p2_Paper, p6_Paper, oG, oT, p7_Paper⟩, ⟨p8_Paper, p9_Paper, ⟨_, _, _, _, p10_Paper, p11_Paper⟩⟩, p12_Paper, p13_Paper, p14_Paper⟩
    is_Paper_Paper := i_Paper_Paper
    is_Paper_NoWhole := i_Paper_NoWhole
    is_Paper_Between := i_Paper_Between
    is_Paper_ByPower := i_Paper_ByPower
    is_Paper_Uneven := i_Paper_Uneven
    io_Paper_list := io_Paper_list
    io_Paper_tuple := io_Paper_tuple
    io_Paper_int := io_Paper_int
    io_Paper_bool := io_Paper_bool
    bc_Paper := ⟨b1_Paper, b2_Paper⟩
    eq_Paper_Paper := ⟨e1_Paper, e2_Paper, e4_Paper_Paper, e3_Paper, p7_Paper⟩
    mk_Denial := ⟨mk1_Denial, mk2_Denial, mk3_Denial, mk4_Denial⟩
    pc_Denial := ⟨⟨p1_Denial, p2_Denial, p3_Denial, p4_Denial⟩, ⟨p5_Denial, p2_Denial, p6_Denial, oG, oT, p7_Denial⟩, ⟨p8_Denial, p9_Denial, ⟨_, _, _, _, p10_Denial, p11_Denial⟩⟩, p12_Denial, p13_Denial, p14_Denial⟩
    is_Denial_Paper := i_Denial_Paper
    is_Denial_NoWhole := i_Denial_NoWhole
    is_Denial_Between := i_Denial_Between
    is_Denial_ByPower := i_Denial_ByPower
    is_Denial_Uneven := i_Denial_Uneven
    io_Denial_list := io_Denial_list
    io_Denial_tuple := io_Denial_tuple
    io_Denial_int := io_Denial_int
    io_Denial_bool := io_Denial_bool
    bc_Denial := ⟨b1_Denial, b2_Denial⟩
    eq_Denial_Whole := ⟨e1_Denial, e2_Denial, e4_Denial_Whole, e3_Denial, p7_Denial⟩
    eq_Denial_ByPower := ⟨e1_Denial, e2_Denial, e4_Denial_ByPower, e3_Denial, p7_Denial⟩
    eq_Denial_Paper := ⟨e1_Denial, e2_Denial, e4_Denial_Paper, e3_Denial, p7_Denial⟩
    eq_Denial_Denial := ⟨e1_Denial, e2_Denial, e4_Denial_Denial, e3_Denial, p7_Denial⟩
    ib_NoneType_Paper := ib_NoneType_Paper
    ib_NoneType_NoWhole := ib_NoneType_NoWhole
    ib_NoneType_Between := ib_NoneType_Between
    ib_NoneType_ByPower := ib_NoneType_ByPower
    ib_NoneType_Uneven := ib_NoneType_Uneven
    ib_bool_Paper := ib_bool_Paper
    ib_bool_NoWhole := ib_bool_NoWhole
    ib_bool_Between := ib_bool_Between
    ib_bool_ByPower := ib_bool_ByPower
    ib_bool_Uneven := ib_bool_Uneven
    ib_int_Paper := ib_int_Paper
    ib_int_NoWhole := ib_int_NoWhole
    ib_int_Between := ib_int_Between
    ib_int_ByPower := ib_int_ByPower
    ib_int_Uneven := ib_int_Uneven
    ib_str_Paper := ib_str_Paper
    ib_str_NoWhole := ib_str_NoWhole
    ib_str_Between := ib_str_Between
    ib_str_ByPower := ib_str_ByPower
    ib_str_Uneven := ib_str_Uneven
    ib_list_Paper := ib_list_Paper
    ib_list_NoWhole := ib_list_NoWhole
    ib_list_Between := ib_list_Between
    ib_list_ByPower := ib_list_ByPower
    ib_list_Uneven := ib_list_Uneven
    ib_tuple_Paper := ib_tuple_Paper
    ib_tuple_NoWhole := ib_tuple_NoWhole
    ib_tuple_Between := ib_tuple_Between
    ib_tuple_ByPower := ib_tuple_ByPower
    ib_tuple_Uneven := ib_tuple_Uneven
    z_abs := PySem.W.mg_none_of X G z_abs
    z_all := PySem.W.mg_none_of X G z_all
    z_bool := PySem.W.mg_none_of X G z_bool
    z_int := PySem.W.mg_none_of X G z_int
    z_isinstance := PySem.W.mg_none_of X G z_isinstance
    z_len := PySem.W.mg_none_of X G z_len
    z_list := PySem.W.mg_none_of X G z_list
    z_max := PySem.W.mg_none_of X G z_max
    z_range := PySem.W.mg_none_of X G z_range
    z_repr := PySem.W.mg_none_of X G z_repr
    z_set := PySem.W.mg_none_of X G z_set
    z_sorted := PySem.W.mg_none_of X G z_sorted
    z_str := PySem.W.mg_none_of X G z_str
    z_tuple := PySem.W.mg_none_of X G z_tuple
    z_zip := PySem.W.mg_none_of X G z_zip
    t_MOST_POWER := _
    c_MOST_POWER := PySem.W.mg_of X G c_MOST_POWER
    t_MOST_TOLD := _
    c_MOST_TOLD := PySem.W.mg_of X G c_MOST_TOLD
    t_MOST_IN_ROW := _
    c_MOST_IN_ROW := PySem.W.mg_of X G c_MOST_IN_ROW }
  exact ⟨PySem.W.fnOf "law" "law" (defArgs s_law) (defBody s_law) (defScope s_law) .none kV44 dc44 pm44 an44 cd44 ct44, fun s v => .of_eq rfl, fun base _ _ => ok_law T⟩
end D23
open PySem PySem.W PyProof.Rows
set_option maxHeartbeats 0 in
theorem PySem.Challenge.cw_fourthlike_k23_rows_of_numbers_by_one_po_holds : PySem.Challenge.rw_fourthlike_k23_rows_of_numbers_by_one_po.Holds := by
  w_on; o_law; k_head; (case hw => w_witness2)
  k_fill
  refine HV.walkG (l := PySem.Challenge.rw_fourthlike_k23_rows_of_numbers_by_one_po) (n := 63) (k := 10) (x := "script") (sp := fun w => D23.sp_law _) rfl (by decide) rfl ⟨rfl, by decide, by decide⟩ (fun w h Y => PySem.W.kIn_of Y) ?F (fun _ _ a ns hl hS => ⟨a, ns, rfl, hS, hl, fun _ => rfl⟩)
  case F =>
    intro w mg fa h KX G hmg
    refine' D23.all_mk KX G hmg ?a_Paper ?a_Denial ?a_Whole ?a_NoWhole ?a_ByPower ?a_Between ?a_Uneven ?a0 ?l0 ?c0 ?k0 ?a1 ?l1 ?c1 ?a2 ?l2 ?c2 ?k2 ?a3 ?l3 ?c3 ?k3 ?a4 ?l4 ?c4 ?k4 ?a5 ?l5 ?c5 ?k5 ?a6 ?l6 ?c6 ?k6 ?a7 ?l7 ?c7 ?k7 ?a8 ?l8 ?c8 ?x8 ?u8 ?v8 ?y8 ?w8 ?z_super ?t_super ?a9 ?l9 ?c9 ?x9 ?u9 ?v9 ?y9 ?w9 ?a10 ?l10 ?c10 ?k10 ?a11 ?l11 ?c11 ?k11 ?a12 ?l12 ?c12 ?k12 ?a13 ?l13 ?c13 ?k13 ?a14 ?l14 ?c14 ?k14 ?a15 ?l15 ?c15 ?k15 ?a16 ?l16 ?c16 ?k16 ?a17 ?l17 ?c17 ?k17 ?a18 ?l18 ?c18 ?k18 ?a19 ?l19 ?c19 ?x19 ?u19 ?v19 ?y19 ?w19 ?a20 ?l20 ?c20 ?x20 ?u20 ?v20 ?y20 ?w20 ?a21 ?l21 ?c21 ?k21 ?a22 ?l22 ?c22 ?k22 ?a23 ?l23 ?c23 ?k23 ?a24 ?l24 ?c24 ?x24 ?u24 ?v24 ?y24 ?w24 ?a25 ?l25 ?c25 ?k25 ?a26 ?l26 ?c26 ?k26 ?a27 ?l27 ?c27 ?k27 ?a28 ?l28 ?c28 ?k28 ?a29 ?l29 ?c29 ?k29 ?a30 ?l30 ?c30 ?k30 ?a31 ?l31 ?c31 ?k31 ?a32 ?l32 ?c32 ?k32 ?a33 ?l33 ?c33 ?k33 ?a34 ?l34 ?c34 ?k34 ?a35 ?l35 ?c35 ?k35 ?a36 ?l36 ?c36 ?k36 ?a37 ?l37 ?c37 ?k37 ?a38 ?l38 ?c38 ?k38 ?a39 ?l39 ?c39 ?k39 ?a40 ?l40 ?c40 ?k40 ?a41 ?l41 ?c41 ?k41 ?a42 ?l42 ?c42 ?k42 ?a43 ?l43 ?c43 ?k43 ?a44 ?l44 ?c44 ?k44 ?oG ?oT ?oS ?mk1_NoWhole ?mk2_NoWhole ?mk3_NoWhole ?mk4_NoWhole ?p1_NoWhole ?p2_NoWhole ?p3_NoWhole ?p4_NoWhole ?p5_NoWhole ?p6_NoWhole ?p7_NoWhole ?p8_NoWhole ?p9_NoWhole ?p10_NoWhole ?p11_NoWhole ?p12_NoWhole ?p13_NoWhole ?p14_NoWhole ?s1_NoWhole_NoWhole ?s2_NoWhole_NoWhole ?s3_NoWhole_NoWhole ?s4_NoWhole_NoWhole ?n_NoWhole_low ?i_NoWhole_Paper ?i_NoWhole_NoWhole ?i_NoWhole_Between ?i_NoWhole_ByPower ?i_NoWhole_Uneven ?io_NoWhole_list ?io_NoWhole_tuple ?io_NoWhole_int ?io_NoWhole_bool ?b1_NoWhole ?b2_NoWhole ?e1_NoWhole ?e2_NoWhole ?e3_NoWhole ?e4_NoWhole_NoWhole ?e4_NoWhole_Whole ?e4_NoWhole_Between ?e4_NoWhole_ByPower ?e4_NoWhole_Uneven ?e4_NoWhole_Paper ?e4_NoWhole_Denial ?mk1_Whole ?mk2_Whole ?mk3_Whole ?mk4_Whole ?p1_Whole ?p2_Whole ?p3_Whole ?p4_Whole ?p5_Whole ?p6_Whole ?p7_Whole ?p8_Whole ?p9_Whole ?p10_Whole ?p11_Whole ?p12_Whole ?p13_Whole ?p14_Whole ?s1_Whole_Whole ?s2_Whole_Whole ?s3_Whole_Whole ?s4_Whole_Whole ?n_Whole_number ?i_Whole_Paper ?i_Whole_NoWhole ?i_Whole_Between ?i_Whole_ByPower ?i_Whole_Uneven ?io_Whole_list ?io_Whole_tuple ?io_Whole_int ?io_Whole_bool ?b1_Whole ?b2_Whole ?e1_Whole ?e2_Whole ?e3_Whole ?e4_Whole_NoWhole ?e4_Whole_Whole ?e4_Whole_Between ?e4_Whole_ByPower ?e4_Whole_Uneven ?e4_Whole_Paper ?e4_Whole_Denial ?mk1_Between ?mk2_Between ?mk3_Between ?mk4_Between ?p1_Between ?p2_Between ?p3_Between ?p4_Between ?p5_Between ?p6_Between ?p7_Between ?p8_Between ?p9_Between ?p10_Between ?p11_Between ?p12_Between ?p13_Between ?p14_Between ?s1_Between_Between ?s2_Between_Between ?s3_Between_Between ?s4_Between_Between ?n_Between_low ?i_Between_Paper ?i_Between_NoWhole ?i_Between_Between ?i_Between_ByPower ?i_Between_Uneven ?io_Between_list ?io_Between_tuple ?io_Between_int ?io_Between_bool ?b1_Between ?b2_Between ?e1_Between ?e2_Between ?e3_Between ?e4_Between_NoWhole ?e4_Between_Whole ?e4_Between_Between ?e4_Between_ByPower ?e4_Between_Uneven ?e4_Between_Paper ?e4_Between_Denial ?mk1_ByPower ?mk2_ByPower ?mk3_ByPower ?mk4_ByPower ?p1_ByPower ?p2_ByPower ?p3_ByPower ?p4_ByPower ?p5_ByPower ?p6_ByPower ?p7_ByPower ?p8_ByPower ?p9_ByPower ?p10_ByPower ?p11_ByPower ?p12_ByPower ?p13_ByPower ?p14_ByPower ?s1_ByPower_ByPower ?s2_ByPower_ByPower ?s3_ByPower_ByPower ?s4_ByPower_ByPower ?n_ByPower_power ?i_ByPower_Paper ?i_ByPower_NoWhole ?i_ByPower_Between ?i_ByPower_ByPower ?i_ByPower_Uneven ?io_ByPower_list ?io_ByPower_tuple ?io_ByPower_int ?io_ByPower_bool ?b1_ByPower ?b2_ByPower ?e1_ByPower ?e2_ByPower ?e3_ByPower ?e4_ByPower_NoWhole ?e4_ByPower_Whole ?e4_ByPower_Between ?e4_ByPower_ByPower ?e4_ByPower_Uneven ?e4_ByPower_Paper ?e4_ByPower_Denial ?mk1_Uneven ?mk2_Uneven ?mk3_Uneven ?mk4_Uneven ?p1_Uneven ?p2_Uneven ?p3_Uneven ?p4_Uneven ?p5_Uneven ?p6_Uneven ?p7_Uneven ?p8_Uneven ?p9_Uneven ?p10_Uneven ?p11_Uneven ?p12_Uneven ?p13_Uneven ?p14_Uneven ?s1_Uneven_Uneven ?s2_Uneven_Uneven ?s3_Uneven_Uneven ?s4_Uneven_Uneven ?n_Uneven_step ?i_Uneven_Paper ?i_Uneven_NoWhole ?i_Uneven_Between ?i_Uneven_ByPower ?i_Uneven_Uneven ?io_Uneven_list ?io_Uneven_tuple ?io_Uneven_int ?io_Uneven_bool ?b1_Uneven ?b2_Uneven ?e1_Uneven ?e2_Uneven ?e3_Uneven ?e4_Uneven_NoWhole ?e4_Uneven_Whole ?e4_Uneven_Between ?e4_Uneven_ByPower ?e4_Uneven_Uneven ?e4_Uneven_Paper ?e4_Uneven_Denial ?mk1_Paper ?mk2_Paper ?mk3_Paper ?mk4_Paper ?p1_Paper ?p2_Paper ?p3_Paper ?p4_Paper ?p5_Paper ?p6_Paper ?p7_Paper ?p8_Paper ?p9_Paper ?p10_Paper ?p11_Paper ?p12_Paper ?p13_Paper ?p14_Paper ?i_Paper_Paper ?i_Paper_NoWhole ?i_Paper_Between ?i_Paper_ByPower ?i_Paper_Uneven ?io_Paper_list ?io_Paper_tuple ?io_Paper_int ?io_Paper_bool ?b1_Paper ?b2_Paper ?e1_Paper ?e2_Paper ?e3_Paper ?e4_Paper_Paper ?mk1_Denial ?mk2_Denial ?mk3_Denial ?mk4_Denial ?p1_Denial ?p2_Denial ?p3_Denial ?p4_Denial ?p5_Denial ?p6_Denial ?p7_Denial ?p8_Denial ?p9_Denial ?p10_Denial ?p11_Denial ?p12_Denial ?p13_Denial ?p14_Denial ?i_Denial_Paper ?i_Denial_NoWhole ?i_Denial_Between ?i_Denial_ByPower ?i_Denial_Uneven ?io_Denial_list ?io_Denial_tuple ?io_Denial_int ?io_Denial_bool ?b1_Denial ?b2_Denial ?e1_Denial ?e2_Denial ?e3_Denial ?e4_Denial_Whole ?e4_Denial_ByPower ?e4_Denial_Paper ?e4_Denial_Denial ?ib_NoneType_Paper ?ib_NoneType_NoWhole ?ib_NoneType_Between ?ib_NoneType_ByPower ?ib_NoneType_Uneven ?ib_bool_Paper ?ib_bool_NoWhole ?ib_bool_Between ?ib_bool_ByPower ?ib_bool_Uneven ?ib_int_Paper ?ib_int_NoWhole ?ib_int_Between ?ib_int_ByPower ?ib_int_Uneven ?ib_str_Paper ?ib_str_NoWhole ?ib_str_Between ?ib_str_ByPower ?ib_str_Uneven ?ib_list_Paper ?ib_list_NoWhole ?ib_list_Between ?ib_list_ByPower ?ib_list_Uneven ?ib_tuple_Paper ?ib_tuple_NoWhole ?ib_tuple_Between ?ib_tuple_ByPower ?ib_tuple_Uneven ?z_abs ?z_all ?z_bool ?z_int ?z_isinstance ?z_len ?z_list ?z_max ?z_range ?z_repr ?z_set ?z_sorted ?z_str ?z_tuple ?z_zip ?c_MOST_POWER ?c_MOST_TOLD ?c_MOST_IN_ROW
    (case a_Paper => (k_is))
    (case a_Denial => (k_is))
    (case a_Whole => (k_is))
    (case a_NoWhole => (k_is))
    (case a_ByPower => (k_is))
    (case a_Between => (k_is))
    (case a_Uneven => (k_is))
    (case a0 => (k_is))
    (case l0 => (k_is))
    (case c0 => (k_is))
    (case k0 => (k_is))
    (case a1 => (k_is))
    (case l1 => (k_is))
    (case c1 => (k_is))
    (case a2 => (k_is))
    (case l2 => (k_is))
    (case c2 => (k_is))
    (case k2 => (k_is))
    (case a3 => (k_is))
    (case l3 => (k_is))
    (case c3 => (k_is))
    (case k3 => (k_is))
    (case a4 => (k_is))
    (case l4 => (k_is))
    (case c4 => (k_is))
    (case k4 => (k_is))
    (case a5 => (k_is))
    (case l5 => (k_is))
    (case c5 => (k_is))
    (case k5 => (k_is))
    (case a6 => (k_is))
    (case l6 => (k_is))
    (case c6 => (k_is))
    (case k6 => (k_is))
    (case a7 => (k_is))
    (case l7 => (k_is))
    (case c7 => (k_is))
    (case k7 => (k_is))
    (case a8 => (k_is))
    (case l8 => (k_is))
    (case c8 => (k_is))
    (case x8 => (k_is))
    (case u8 => (rfl))
    (case v8 => (first | rfl | decide +kernel))
    (case y8 => (k_is))
    (case w8 => (k_is))
    (case z_super => (k_is))
    (case t_super => (first | rfl | decide +kernel))
    (case a9 => (k_is))
    (case l9 => (k_is))
    (case c9 => (k_is))
    (case x9 => (k_is))
    (case u9 => (rfl))
    (case v9 => (first | rfl | decide +kernel))
    (case y9 => (k_is))
    (case w9 => (k_is))
    (case a10 => (k_is))
    (case l10 => (k_is))
    (case c10 => (k_is))
    (case k10 => (k_is))
    (case a11 => (k_is))
    (case l11 => (k_is))
    (case c11 => (k_is))
    (case k11 => (k_is))
    (case a12 => (k_is))
    (case l12 => (k_is))
    (case c12 => (k_is))
    (case k12 => (k_is))
    (case a13 => (k_is))
    (case l13 => (k_is))
    (case c13 => (k_is))
    (case k13 => (k_is))
    (case a14 => (k_is))
    (case l14 => (k_is))
    (case c14 => (k_is))
    (case k14 => (k_is))
    (case a15 => (k_is))
    (case l15 => (k_is))
    (case c15 => (k_is))
    (case k15 => (k_is))
    (case a16 => (k_is))
    (case l16 => (k_is))
    (case c16 => (k_is))
    (case k16 => (k_is))
    (case a17 => (k_is))
    (case l17 => (k_is))
    (case c17 => (k_is))
    (case k17 => (k_is))
    (case a18 => (k_is))
    (case l18 => (k_is))
    (case c18 => (k_is))
    (case k18 => (k_is))
    (case a19 => (k_is))
    (case l19 => (k_is))
    (case c19 => (k_is))
    (case x19 => (k_is))
    (case u19 => (rfl))
    (case v19 => (first | rfl | decide +kernel))
    (case y19 => (k_is))
    (case w19 => (k_is))
    (case a20 => (k_is))
    (case l20 => (k_is))
    (case c20 => (k_is))
    (case x20 => (k_is))
    (case u20 => (rfl))
    (case v20 => (first | rfl | decide +kernel))
    (case y20 => (k_is))
    (case w20 => (k_is))
    (case a21 => (k_is))
    (case l21 => (k_is))
    (case c21 => (k_is))
    (case k21 => (k_is))
    (case a22 => (k_is))
    (case l22 => (k_is))
    (case c22 => (k_is))
    (case k22 => (k_is))
    (case a23 => (k_is))
    (case l23 => (k_is))
    (case c23 => (k_is))
    (case k23 => (k_is))
    (case a24 => (k_is))
    (case l24 => (k_is))
    (case c24 => (k_is))
    (case x24 => (k_is))
    (case u24 => (rfl))
    (case v24 => (first | rfl | decide +kernel))
    (case y24 => (k_is))
    (case w24 => (k_is))
    (case a25 => (k_is))
    (case l25 => (k_is))
    (case c25 => (k_is))
    (case k25 => (k_is))
    (case a26 => (k_is))
    (case l26 => (k_is))
    (case c26 => (k_is))
    (case k26 => (k_is))
    (case a27 => (k_is))
    (case l27 => (k_is))
    (case c27 => (k_is))
    (case k27 => (k_is))
    (case a28 => (k_is))
    (case l28 => (k_is))
    (case c28 => (k_is))
    (case k28 => (k_is))
    (case a29 => (k_is))
    (case l29 => (k_is))
    (case c29 => (k_is))
    (case k29 => (k_is))
    (case a30 => (k_is))
    (case l30 => (k_is))
    (case c30 => (k_is))
    (case k30 => (k_is))
    (case a31 => (k_is))
    (case l31 => (k_is))
    (case c31 => (k_is))
    (case k31 => (k_is))
    (case a32 => (k_is))
    (case l32 => (k_is))
    (case c32 => (k_is))
    (case k32 => (k_is))
    (case a33 => (k_is))
    (case l33 => (k_is))
    (case c33 => (k_is))
    (case k33 => (k_is))
    (case a34 => (k_is))
    (case l34 => (k_is))
    (case c34 => (k_is))
    (case k34 => (k_is))
    (case a35 => (k_is))
    (case l35 => (k_is))
    (case c35 => (k_is))
    (case k35 => (k_is))
    (case a36 => (k_is))
    (case l36 => (k_is))
    (case c36 => (k_is))
    (case k36 => (k_is))
    (case a37 => (k_is))
    (case l37 => (k_is))
    (case c37 => (k_is))
    (case k37 => (k_is))
    (case a38 => (k_is))
    (case l38 => (k_is))
    (case c38 => (k_is))
    (case k38 => (k_is))
    (case a39 => (k_is))
    (case l39 => (k_is))
    (case c39 => (k_is))
    (case k39 => (k_is))
    (case a40 => (k_is))
    (case l40 => (k_is))
    (case c40 => (k_is))
    (case k40 => (k_is))
    (case a41 => (k_is))
    (case l41 => (k_is))
    (case c41 => (k_is))
    (case k41 => (k_is))
    (case a42 => (k_is))
    (case l42 => (k_is))
    (case c42 => (k_is))
    (case k42 => (k_is))
    (case a43 => (k_is))
    (case l43 => (k_is))
    (case c43 => (k_is))
    (case k43 => (k_is))
    (case a44 => (k_is))
    (case l44 => (k_is))
    (case c44 => (k_is))
    (case k44 => (k_is))
    (case oG => (k_is))
    (case oT => (k_is))
    (case oS => (k_is))
    (case mk1_NoWhole => (k_is))
    (case mk2_NoWhole => (k_is))
    (case mk3_NoWhole => (k_is))
    (case mk4_NoWhole => (k_is))
    (case p1_NoWhole => (k_is))
    (case p2_NoWhole => (k_is))
    (case p3_NoWhole => (k_is))
    (case p4_NoWhole => (k_is))
    (case p5_NoWhole => (k_is))
    (case p6_NoWhole => (k_is))
    (case p7_NoWhole => (k_is))
    (case p8_NoWhole => (k_is))
    (case p9_NoWhole => (k_is))
    (case p10_NoWhole => (k_is))
    (case p11_NoWhole => (rfl))
    (case p12_NoWhole => (show PySem.W.findIn _ _ _ = _; k_is))
    (case p13_NoWhole => (show PySem.W.findIn _ _ _ = _; k_is))
    (case p14_NoWhole => (kit_is))
    (case s1_NoWhole_NoWhole => (ks_is))
    (case s2_NoWhole_NoWhole => (k_is))
    (case s3_NoWhole_NoWhole => (k_is))
    (case s4_NoWhole_NoWhole => (k_is))
    (case n_NoWhole_low => (show PySem.W.findIn _ _ _ = _; k_is))
    (case i_NoWhole_Paper => (kit_is))
    (case i_NoWhole_NoWhole => (kit_is))
    (case i_NoWhole_Between => (kit_is))
    (case i_NoWhole_ByPower => (kit_is))
    (case i_NoWhole_Uneven => (kit_is))
    (case io_NoWhole_list => (kit_is))
    (case io_NoWhole_tuple => (kit_is))
    (case io_NoWhole_int => (kit_is))
    (case io_NoWhole_bool => (kit_is))
    (case b1_NoWhole => (k_is))
    (case b2_NoWhole => (k_is))
    (case e1_NoWhole => (k_is))
    (case e2_NoWhole => (k_is))
    (case e3_NoWhole => (k_is))
    (case e4_NoWhole_NoWhole => (k_is))
    (case e4_NoWhole_Whole => (k_is))
    (case e4_NoWhole_Between => (k_is))
    (case e4_NoWhole_ByPower => (k_is))
    (case e4_NoWhole_Uneven => (k_is))
    (case e4_NoWhole_Paper => (k_is))
    (case e4_NoWhole_Denial => (k_is))
    (case mk1_Whole => (k_is))
    (case mk2_Whole => (k_is))
    (case mk3_Whole => (k_is))
    (case mk4_Whole => (k_is))
    (case p1_Whole => (k_is))
    (case p2_Whole => (k_is))
    (case p3_Whole => (k_is))
    (case p4_Whole => (k_is))
    (case p5_Whole => (k_is))
    (case p6_Whole => (k_is))
    (case p7_Whole => (k_is))
    (case p8_Whole => (k_is))
    (case p9_Whole => (k_is))
    (case p10_Whole => (k_is))
    (case p11_Whole => (rfl))
    (case p12_Whole => (show PySem.W.findIn _ _ _ = _; k_is))
    (case p13_Whole => (show PySem.W.findIn _ _ _ = _; k_is))
    (case p14_Whole => (kit_is))
    (case s1_Whole_Whole => (ks_is))
    (case s2_Whole_Whole => (k_is))
    (case s3_Whole_Whole => (k_is))
    (case s4_Whole_Whole => (k_is))
    (case n_Whole_number => (show PySem.W.findIn _ _ _ = _; k_is))
    (case i_Whole_Paper => (kit_is))
    (case i_Whole_NoWhole => (kit_is))
    (case i_Whole_Between => (kit_is))
    (case i_Whole_ByPower => (kit_is))
    (case i_Whole_Uneven => (kit_is))
    (case io_Whole_list => (kit_is))
    (case io_Whole_tuple => (kit_is))
    (case io_Whole_int => (kit_is))
    (case io_Whole_bool => (kit_is))
    (case b1_Whole => (k_is))
    (case b2_Whole => (k_is))
    (case e1_Whole => (k_is))
    (case e2_Whole => (k_is))
    (case e3_Whole => (k_is))
    (case e4_Whole_NoWhole => (k_is))
    (case e4_Whole_Whole => (k_is))
    (case e4_Whole_Between => (k_is))
    (case e4_Whole_ByPower => (k_is))
    (case e4_Whole_Uneven => (k_is))
    (case e4_Whole_Paper => (k_is))
    (case e4_Whole_Denial => (k_is))
    (case mk1_Between => (k_is))
    (case mk2_Between => (k_is))
    (case mk3_Between => (k_is))
    (case mk4_Between => (k_is))
    (case p1_Between => (k_is))
    (case p2_Between => (k_is))
    (case p3_Between => (k_is))
    (case p4_Between => (k_is))
    (case p5_Between => (k_is))
    (case p6_Between => (k_is))
    (case p7_Between => (k_is))
    (case p8_Between => (k_is))
    (case p9_Between => (k_is))
    (case p10_Between => (k_is))
    (case p11_Between => (rfl))
    (case p12_Between => (show PySem.W.findIn _ _ _ = _; k_is))
    (case p13_Between => (show PySem.W.findIn _ _ _ = _; k_is))
    (case p14_Between => (kit_is))
    (case s1_Between_Between => (ks_is))
    (case s2_Between_Between => (k_is))
    (case s3_Between_Between => (k_is))
    (case s4_Between_Between => (k_is))
    (case n_Between_low => (show PySem.W.findIn _ _ _ = _; k_is))
    (case i_Between_Paper => (kit_is))
    (case i_Between_NoWhole => (kit_is))
    (case i_Between_Between => (kit_is))
    (case i_Between_ByPower => (kit_is))
    (case i_Between_Uneven => (kit_is))
    (case io_Between_list => (kit_is))
    (case io_Between_tuple => (kit_is))
    (case io_Between_int => (kit_is))
    (case io_Between_bool => (kit_is))
    (case b1_Between => (k_is))
    (case b2_Between => (k_is))
    (case e1_Between => (k_is))
    (case e2_Between => (k_is))
    (case e3_Between => (k_is))
    (case e4_Between_NoWhole => (k_is))
    (case e4_Between_Whole => (k_is))
    (case e4_Between_Between => (k_is))
    (case e4_Between_ByPower => (k_is))
    (case e4_Between_Uneven => (k_is))
    (case e4_Between_Paper => (k_is))
    (case e4_Between_Denial => (k_is))
    (case mk1_ByPower => (k_is))
    (case mk2_ByPower => (k_is))
    (case mk3_ByPower => (k_is))
    (case mk4_ByPower => (k_is))
    (case p1_ByPower => (k_is))
    (case p2_ByPower => (k_is))
    (case p3_ByPower => (k_is))
    (case p4_ByPower => (k_is))
    (case p5_ByPower => (k_is))
    (case p6_ByPower => (k_is))
    (case p7_ByPower => (k_is))
    (case p8_ByPower => (k_is))
    (case p9_ByPower => (k_is))
    (case p10_ByPower => (k_is))
    (case p11_ByPower => (rfl))
    (case p12_ByPower => (show PySem.W.findIn _ _ _ = _; k_is))
    (case p13_ByPower => (show PySem.W.findIn _ _ _ = _; k_is))
    (case p14_ByPower => (kit_is))
    (case s1_ByPower_ByPower => (ks_is))
    (case s2_ByPower_ByPower => (k_is))
    (case s3_ByPower_ByPower => (k_is))
    (case s4_ByPower_ByPower => (k_is))
    (case n_ByPower_power => (show PySem.W.findIn _ _ _ = _; k_is))
    (case i_ByPower_Paper => (kit_is))
    (case i_ByPower_NoWhole => (kit_is))
    (case i_ByPower_Between => (kit_is))
    (case i_ByPower_ByPower => (kit_is))
    (case i_ByPower_Uneven => (kit_is))
    (case io_ByPower_list => (kit_is))
    (case io_ByPower_tuple => (kit_is))
    (case io_ByPower_int => (kit_is))
    (case io_ByPower_bool => (kit_is))
    (case b1_ByPower => (k_is))
    (case b2_ByPower => (k_is))
    (case e1_ByPower => (k_is))
    (case e2_ByPower => (k_is))
    (case e3_ByPower => (k_is))
    (case e4_ByPower_NoWhole => (k_is))
    (case e4_ByPower_Whole => (k_is))
    (case e4_ByPower_Between => (k_is))
    (case e4_ByPower_ByPower => (k_is))
    (case e4_ByPower_Uneven => (k_is))
    (case e4_ByPower_Paper => (k_is))
    (case e4_ByPower_Denial => (k_is))
    (case mk1_Uneven => (k_is))
    (case mk2_Uneven => (k_is))
    (case mk3_Uneven => (k_is))
    (case mk4_Uneven => (k_is))
    (case p1_Uneven => (k_is))
    (case p2_Uneven => (k_is))
    (case p3_Uneven => (k_is))
    (case p4_Uneven => (k_is))
    (case p5_Uneven => (k_is))
    (case p6_Uneven => (k_is))
    (case p7_Uneven => (k_is))
    (case p8_Uneven => (k_is))
    (case p9_Uneven => (k_is))
    (case p10_Uneven => (k_is))
    (case p11_Uneven => (rfl))
    (case p12_Uneven => (show PySem.W.findIn _ _ _ = _; k_is))
    (case p13_Uneven => (show PySem.W.findIn _ _ _ = _; k_is))
    (case p14_Uneven => (kit_is))
    (case s1_Uneven_Uneven => (ks_is))
    (case s2_Uneven_Uneven => (k_is))
    (case s3_Uneven_Uneven => (k_is))
    (case s4_Uneven_Uneven => (k_is))
    (case n_Uneven_step => (show PySem.W.findIn _ _ _ = _; k_is))
    (case i_Uneven_Paper => (kit_is))
    (case i_Uneven_NoWhole => (kit_is))
    (case i_Uneven_Between => (kit_is))
    (case i_Uneven_ByPower => (kit_is))
    (case i_Uneven_Uneven => (kit_is))
    (case io_Uneven_list => (kit_is))
    (case io_Uneven_tuple => (kit_is))
    (case io_Uneven_int => (kit_is))
    (case io_Uneven_bool => (kit_is))
    (case b1_Uneven => (k_is))
    (case b2_Uneven => (k_is))
    (case e1_Uneven => (k_is))
    (case e2_Uneven => (k_is))
    (case e3_Uneven => (k_is))
    (case e4_Uneven_NoWhole => (k_is))
    (case e4_Uneven_Whole => (k_is))
    (case e4_Uneven_Between => (k_is))
    (case e4_Uneven_ByPower => (k_is))
    (case e4_Uneven_Uneven => (k_is))
    (case e4_Uneven_Paper => (k_is))
    (case e4_Uneven_Denial => (k_is))
    (case mk1_Paper => (k_is))
    (case mk2_Paper => (k_is))
    (case mk3_Paper => (k_is))
    (case mk4_Paper => (k_is))
    (case p1_Paper => (k_is))
    (case p2_Paper => (k_is))
    (case p3_Paper => (k_is))
    (case p4_Paper => (k_is))
    (case p5_Paper => (k_is))
    (case p6_Paper => (k_is))
    (case p7_Paper => (k_is))
    (case p8_Paper => (k_is))
    (case p9_Paper => (k_is))
    (case p10_Paper => (k_is))
    (case p11_Paper => (rfl))
    (case p12_Paper => (show PySem.W.findIn _ _ _ = _; k_is))
    (case p13_Paper => (show PySem.W.findIn _ _ _ = _; k_is))
    (case p14_Paper => (kit_is))
    (case i_Paper_Paper => (kit_is))
    (case i_Paper_NoWhole => (kit_is))
    (case i_Paper_Between => (kit_is))
    (case i_Paper_ByPower => (kit_is))
    (case i_Paper_Uneven => (kit_is))
    (case io_Paper_list => (kit_is))
    (case io_Paper_tuple => (kit_is))
    (case io_Paper_int => (kit_is))
    (case io_Paper_bool => (kit_is))
    (case b1_Paper => (k_is))
    (case b2_Paper => (k_is))
    (case e1_Paper => (k_is))
    (case e2_Paper => (k_is))
    (case e3_Paper => (k_is))
    (case e4_Paper_Paper => (k_is))
    (case mk1_Denial => (k_is))
    (case mk2_Denial => (k_is))
    (case mk3_Denial => (k_is))
    (case mk4_Denial => (k_is))
    (case p1_Denial => (k_is))
    (case p2_Denial => (k_is))
    (case p3_Denial => (k_is))
    (case p4_Denial => (k_is))
    (case p5_Denial => (k_is))
    (case p6_Denial => (k_is))
    (case p7_Denial => (k_is))
    (case p8_Denial => (k_is))
    (case p9_Denial => (k_is))
    (case p10_Denial => (k_is))
    (case p11_Denial => (rfl))
    (case p12_Denial => (show PySem.W.findIn _ _ _ = _; k_is))
    (case p13_Denial => (show PySem.W.findIn _ _ _ = _; k_is))
    (case p14_Denial => (kit_is))
    (case i_Denial_Paper => (kit_is))
    (case i_Denial_NoWhole => (kit_is))
    (case i_Denial_Between => (kit_is))
    (case i_Denial_ByPower => (kit_is))
    (case i_Denial_Uneven => (kit_is))
    (case io_Denial_list => (kit_is))
    (case io_Denial_tuple => (kit_is))
    (case io_Denial_int => (kit_is))
    (case io_Denial_bool => (kit_is))
    (case b1_Denial => (k_is))
    (case b2_Denial => (k_is))
    (case e1_Denial => (k_is))
    (case e2_Denial => (k_is))
    (case e3_Denial => (k_is))
    (case e4_Denial_Whole => (k_is))
    (case e4_Denial_ByPower => (k_is))
    (case e4_Denial_Paper => (k_is))
    (case e4_Denial_Denial => (k_is))
    (case ib_NoneType_Paper => (kit_is))
    (case ib_NoneType_NoWhole => (kit_is))
    (case ib_NoneType_Between => (kit_is))
    (case ib_NoneType_ByPower => (kit_is))
    (case ib_NoneType_Uneven => (kit_is))
    (case ib_bool_Paper => (kit_is))
    (case ib_bool_NoWhole => (kit_is))
    (case ib_bool_Between => (kit_is))
    (case ib_bool_ByPower => (kit_is))
    (case ib_bool_Uneven => (kit_is))
    (case ib_int_Paper => (kit_is))
    (case ib_int_NoWhole => (kit_is))
    (case ib_int_Between => (kit_is))
    (case ib_int_ByPower => (kit_is))
    (case ib_int_Uneven => (kit_is))
    (case ib_str_Paper => (kit_is))
    (case ib_str_NoWhole => (kit_is))
    (case ib_str_Between => (kit_is))
    (case ib_str_ByPower => (kit_is))
    (case ib_str_Uneven => (kit_is))
    (case ib_list_Paper => (kit_is))
    (case ib_list_NoWhole => (kit_is))
    (case ib_list_Between => (kit_is))
    (case ib_list_ByPower => (kit_is))
    (case ib_list_Uneven => (kit_is))
    (case ib_tuple_Paper => (kit_is))
    (case ib_tuple_NoWhole => (kit_is))
    (case ib_tuple_Between => (kit_is))
    (case ib_tuple_ByPower => (kit_is))
    (case ib_tuple_Uneven => (kit_is))
    (case z_abs => (k_is))
    (case z_all => (k_is))
    (case z_bool => (k_is))
    (case z_int => (k_is))
    (case z_isinstance => (k_is))
    (case z_len => (k_is))
    (case z_list => (k_is))
    (case z_max => (k_is))
    (case z_range => (k_is))
    (case z_repr => (k_is))
    (case z_set => (k_is))
    (case z_sorted => (k_is))
    (case z_str => (k_is))
    (case z_tuple => (k_is))
    (case z_zip => (k_is))
    (case c_MOST_POWER => (k_is))
    (case c_MOST_TOLD => (k_is))
    (case c_MOST_IN_ROW => (k_is))
