import PyProof.Rows.All
import Wide.All
import OpenK.AllK
import Wide.FinOn
import HandS.ForMost
import HandS.Wide
import HandS.Style
import HandS.NoneIn
import HandS.IsInst
import HandS.Evl
import HandS.TupAny
import HandS.Zip
import KE.RegKIsAll
import KE.RegKSuper
import HandS.Defaults
import KE.KStateDown
import HandS.Head0
import HandS.Head1
import HandS.Head2
import HandS.HeadEnd
import HandS.HeadHook1
import HandS.HeadHook2
import KE.KSuper
import HandS.ClsMeth
import HandS.Nested
import HandS.Star
import KE.KTypeName
import HandS.OwnEq
import HandS.SetFor
import HandS.Records
import HandS.RaiseMore
import PyProof.Rows.Range3
import HandS.Strs
import HandS.Deep
import PyProof.ReprRoads
import HandS.Ends
import PyProof.EnumMake
import KE.GoesEnum
import KE.SortData
import HandS.WideBits
import KE.KBits
import KE.BitLaws
import KE.OsArith
import PyProof.WalksMore
import PyProof.Rows.SetFrom
import PyProof.Rows.ReprOcc
import KE.IntBitsLaws
import HandS.Base
import HandS.Call
import HandS.ExcInit
import OpenK.KOps
import HandS.Conv
import HandS.Exc
import HandS.ExcOwn
import HandS.ExcField
import HandS.WordsExc
import HandS.TupSets
import KE.KeyNested
import PySem.Challenge.RW_fourthlike_k20_papers_on_powers_bent
set_option Elab.async false
set_option linter.all false
set_option maxRecDepth 100000
set_option maxHeartbeats 4000000
/-! the head by one kernel run: what the top leaves, read off the objects that the globals reach -/
namespace HHk
open PySem PySem.Spec PyProof.Rows L2
def asX (g : Addr → Option Obj) : Nat → List Addr
  | 0 => [mainGlobals, cStatics]
  | n + 1 => He.growD g (asX g n)
def isNon : Value → Bool
  | .none => true
  | _ => false
theorem isNon_ok {v : Value} (h : isNon v = true) : v = .none := by cases v <;> first | rfl | cases h
abbrev FnR : Type := Option (Str × Str × Arguments × FuncBody × Scope × Addr × List Str × Bool × Addr)
def fnR (K : PySem.W.Frag) (a : Addr) : FnR := match K.lookup a with
  | some ⟨_, _, .func fd, _⟩ => some (fd.name, fd.qualname, fd.params, fd.body, fd.scope, fd.globals, fd.closure.map (·.1), isNon fd.defaults, fd.builtins)
  | _ => none
abbrev Fs : Type := List (PySem.W.Frag → Bool)
abbrev Fn : Type := List ((PySem.W.Frag → Addr) × FnR)
abbrev Al : Type := Bool × List FnR
def obs (fs : Fs) (fn : Fn) (K : PySem.W.Frag) : Al := (fs.all fun f => f K, fn.map fun d => fnR K (d.1 K))
def val (fn : Fn) : Al := (true, fn.map (·.2))
def Says (fs : Fs) (fn : Fn) (K : PySem.W.Frag) : Prop := obs fs fn K = val fn
def obsG (n : Nat) (fs : Fs) (fn : Fn) (g : Addr → Option Obj) : Al := obs fs fn (He.frG g (asX g n))
def hook (n : Nat) (fs : Fs) (fn : Fn) : PySem.W.Hook where
  α := Al
  obs := fun s => obsG n fs fn s.heap.get?
  val := fun _ => val fn
  says := fun _ h => ∃ K : PySem.W.Frag, K.In h ∧ Says fs fn K
  of := fun _ _ e => ⟨_, He.frG_in, e⟩
  keeps := fun _ _ _ ⟨K, hK, c⟩ k => ⟨K, PySem.W.Frag.In.keeps hK k, c⟩
theorem obsG_eq {n : Nat} {fs : Fs} {fn : Fn} {g : Addr → Option Obj} {s : Shared} (h : ∀ a, g a = s.heap.get? a) : obsG n fs fn g = (hook n fs fn).obs s := by
  have e : g = s.heap.get? := funext h
  rw [e] <;> rfl
section
variable {fs : Fs} {fn : Fn} {K : PySem.W.Frag}
theorem Says.fact (c : Says fs fn K) (i : Nat) {f : PySem.W.Frag → Bool} (h : fs[i]? = some f := by rfl) : f K = true :=
  List.all_eq_true.mp (show (fs.all fun f => f K) = true from congrArg (fun z : Al => z.1) c) f (List.mem_of_getElem? h)
theorem Says.at_ (c : Says fs fn K) (i : Nat) {d : (PySem.W.Frag → Addr) × FnR} (h : fn[i]? = some d := by rfl) : fnR K (d.1 K) = d.2 := by
  have e : fn.map (fun d => fnR K (d.1 K)) = fn.map (·.2) := congrArg (fun z : Al => z.2) c
  have e2 : (fn.map fun d => fnR K (d.1 K))[i]? = (fn.map (·.2))[i]? := by rw [e]
  rw [List.getElem?_map, List.getElem?_map, h] at e2
  exact Option.some.inj e2
end
def codeB (K : PySem.W.Frag) (a : Addr) (q : Str) : Bool := match K.lookup a with
  | some ⟨_, _, .func fd, _⟩ => PySem.W.codeIn K fd.code q
  | _ => false
section
variable {K : PySem.W.Frag} {a : Addr} {name qual : Str} {params : Arguments} {body : List Stmt} {scope : Scope}
theorem plain (e : fnR K a = some (name, qual, params, .stmts body, scope, mainGlobals, [], true, builtinsNs)) (c : codeB K a qual = true) :
    ∃ oc od sl kV doc pm an cd ct, K.lookup a = some ⟨oc, od, .func (PySem.W.fnOf name qual params body scope .none kV doc pm an cd ct), sl⟩ ∧ PySem.W.codeIn K cd qual = true := by
  unfold codeB at c
  unfold fnR at e
  cases q : K.lookup a with
  | none => rw [q] at c; cases c
  | some o =>
    obtain ⟨oc, od, dt, osl⟩ := o
    rw [q] at c e
    cases dt with
    | func fd =>
      obtain ⟨n1, n2, n3, n4, n5, n6, n7, n8, n9, n10, n11, n12, n13, n14, n15⟩ := fd
      simp only [Option.some.injEq, Prod.mk.injEq] at e
      obtain ⟨h1, h2, h3, h4, h5, h6, h7, h8, h9⟩ := e
      have h8 := isNon_ok h8
      have h7 : n7 = [] := List.map_eq_nil_iff.mp h7
      subst h1 h2 h3 h4 h5 h6 h7 h8 h9
      exact ⟨oc, od, osl, n9, n10, n11, n12, n13, n14, rfl, c⟩
    | _ => cases c
/-- one default, a reference -/
def dflB (K : PySem.W.Frag) (a : Addr) : Bool := match K.lookup a with
  | some ⟨_, _, .func fd, _⟩ => (match fd.defaults with
    | .ref T => (match K.lookup T with
      | some ⟨_, _, .seq its _, _⟩ => (match its.toList with
        | [.ref _] => true
        | _ => false)
      | _ => false)
    | _ => false)
  | _ => false
theorem dfl (e : fnR K a = some (name, qual, params, .stmts body, scope, mainGlobals, [], false, builtinsNs)) (c : codeB K a qual = true) (t : dflB K a = true) :
    ∃ oc od sl kV doc pm an cd ct T oT nT b, K.lookup a = some ⟨oc, od, .func (PySem.W.fnOf name qual params body scope (.ref T) kV doc pm an cd ct), sl⟩ ∧ PySem.W.codeIn K cd qual = true ∧ K.lookup T = some oT ∧ oT.data = .seq [Value.ref b].toArray nT := by
  unfold codeB at c
  unfold fnR at e
  unfold dflB at t
  cases q : K.lookup a with
  | none => rw [q] at c; cases c
  | some o =>
    obtain ⟨oc, od, dt, osl⟩ := o
    rw [q] at c e t
    cases dt with
    | func fd =>
      obtain ⟨n1, n2, n3, n4, n5, n6, n7, n8, n9, n10, n11, n12, n13, n14, n15⟩ := fd
      simp only [Option.some.injEq, Prod.mk.injEq] at e
      obtain ⟨h1, h2, h3, h4, h5, h6, h7, h8, h9⟩ := e
      have h7 : n7 = [] := List.map_eq_nil_iff.mp h7
      subst h1 h2 h3 h4 h5 h6 h7 h9
      cases n8 with
      | ref T =>
        have t2 : (match K.lookup T with
          | some ⟨_, _, .seq its _, _⟩ => (match its.toList with
            | [.ref _] => true
            | _ => false)
          | _ => false) = true := t
        cases qT : K.lookup T with
        | none => rw [qT] at t2; cases t2
        | some oT =>
          obtain ⟨tc, td, tt, tsl⟩ := oT
          rw [qT] at t2
          cases tt with
          | seq its nT =>
            have t3 : (match its.toList with
              | [.ref _] => true
              | _ => false) = true := t2
            obtain ⟨b, hb⟩ : ∃ b, its.toList = [.ref b] := by
              generalize its.toList = l at t3
              match l, t3 with
              | [.ref b], _ => exact ⟨b, rfl⟩
            have e3 : its = [Value.ref b].toArray := by rw [← hb, Array.toArray_toList]
            exact ⟨oc, od, osl, n9, n10, n11, n12, n13, n14, T, _, nT, b, rfl, c, qT, by rw [e3]⟩
          | _ => cases t2
      | _ => cases t
    | _ => cases c
def strAt (o : Option Value) (file : Str) : Bool := match o with
  | some (.str f _) => (file == f)
  | _ => false
theorem strAt_ok {o : Option Value} {file : Str} (h : strAt o file = true) : ∃ f tf, o = some (.str f tf) ∧ (file == f) = true := by
  match o, h with
  | some (.str f tf), h => exact ⟨f, tf, rfl, h⟩
def nmAt (o : Option (Option Value)) (nm : Str) : Bool := match o with
  | some (some (.str x _)) => decide (x = nm)
  | _ => false
theorem nmAt_ok {o : Option (Option Value)} {nm : Str} (h : nmAt o nm = true) : ∃ tk, o = some (some (.str nm tk)) := by
  match o, h with
  | some (some (.str x tk)), h =>
    have hx : x = nm := of_decide_eq_true h
    subst hx
    exact ⟨tk, rfl⟩
/-- an __init__ that names its class in a cell -/
def supB (K : PySem.W.Frag) (a C : Addr) (qual file : Str) : Bool := match K.lookup a with
  | some ⟨_, _, .func fd, _⟩ => (match fd.closure, fd.code with
    | [(_, cc)], .ref ca => PySem.W.codeIn K (.ref ca) qual && ((match K.lookup ca with
      | some ⟨_, _, .fields xvs, _⟩ => strAt xvs[2]? file
      | _ => false) && ((match K.lookup cc with
      | some ⟨_, _, .cell (some (.ref D)), _⟩ => decide (D = C)
      | _ => false) && (PySem.W.clsIn K C).isSome))
    | _, _ => false)
  | _ => false
theorem sup {C : Addr} {file : Str} {x : Str} (e : fnR K a = some (name, qual, params, .stmts body, scope, mainGlobals, [x], true, builtinsNs)) (t : supB K a C qual file = true) :
    ∃ oc od sl kV doc pm an ct cc ca xcl xcd xvs xcs f tf ycl ycd ycs cdD, K.lookup a = some ⟨oc, od, .func (PySem.W.fnX name qual params body scope [(x, cc)] .none kV doc pm an (.ref ca) ct), sl⟩ ∧ PySem.W.codeIn K (.ref ca) qual = true ∧
      K.lookup ca = some ⟨xcl, xcd, .fields xvs, xcs⟩ ∧ xvs[2]? = some (.str f tf) ∧ (file == f) = true ∧ K.lookup cc = some ⟨ycl, ycd, .cell (some (.ref C)), ycs⟩ ∧ PySem.W.clsIn K C = some cdD := by
  unfold fnR at e
  unfold supB at t
  cases q : K.lookup a with
  | none => rw [q] at t; cases t
  | some o =>
    obtain ⟨oc, od, dt, osl⟩ := o
    rw [q] at e t
    cases dt with
    | func fd =>
      obtain ⟨n1, n2, n3, n4, n5, n6, n7, n8, n9, n10, n11, n12, n13, n14, n15⟩ := fd
      simp only [Option.some.injEq, Prod.mk.injEq] at e
      obtain ⟨h1, h2, h3, h4, h5, h6, h7, h8, h9⟩ := e
      have h8 := isNon_ok h8
      subst h1 h2 h3 h4 h5 h6 h8 h9
      match n7, h7 with
      | [(y, cc)], h7 =>
        have hy : y = x := by simpa using h7
        subst hy
        cases n13 with
        | ref ca =>
          have t1 : (PySem.W.codeIn K (.ref ca) n2 && ((match K.lookup ca with
            | some ⟨_, _, .fields xvs, _⟩ => strAt xvs[2]? file
            | _ => false) && ((match K.lookup cc with
            | some ⟨_, _, .cell (some (.ref D)), _⟩ => decide (D = C)
            | _ => false) && (PySem.W.clsIn K C).isSome))) = true := t
          obtain ⟨t2, t1⟩ := He.ba t1
          obtain ⟨t3, t1⟩ := He.ba t1
          obtain ⟨t4, t5⟩ := He.ba t1
          obtain ⟨cdD, t5⟩ := Option.isSome_iff_exists.mp t5
          cases qa : K.lookup ca with
          | none => rw [qa] at t3; cases t3
          | some oa =>
            obtain ⟨xcl, xcd, xd, xcs⟩ := oa
            rw [qa] at t3
            cases xd with
            | fields xvs =>
              obtain ⟨f, tf, qx, t6⟩ := strAt_ok (show strAt xvs[2]? file = true from t3)
              cases qc : K.lookup cc with
              | none => rw [qc] at t4; cases t4
              | some oc2 =>
                obtain ⟨ycl, ycd, yd, ycs⟩ := oc2
                rw [qc] at t4
                cases yd with
                | cell v2 =>
                  match v2, t4, qc with
                  | some (.ref D), t4, qc =>
                    have hD : D = C := of_decide_eq_true t4
                    subst hD
                    exact ⟨oc, od, osl, n9, n10, n11, n12, n14, cc, ca, xcl, xcd, xvs, xcs, f, tf, ycl, ycd, ycs, cdD, rfl, t2, qa, qx, t6, qc, t5⟩
                | _ => cases t4
            | _ => cases t3
        | _ => cases t
    | _ => cases t
/-- a class by its name -/
def getO (o : Option PySem.W.CFound) (a b c d : Value) : Bool := match o with
  | some (.get x y z t) => decide (x = a) && (decide (y = b) && (decide (z = c) && decide (t = d)))
  | _ => false
theorem getO_ok {o : Option PySem.W.CFound} {a b c d : Value} (h : getO o a b c d = true) : o = some (.get a b c d) := by
  match o, h with
  | some (.get x y z t), h =>
    obtain ⟨h1, h⟩ := He.ba (show (decide (x = a) && (decide (y = b) && (decide (z = c) && decide (t = d)))) = true from h)
    obtain ⟨h2, h⟩ := He.ba h
    obtain ⟨h3, h4⟩ := He.ba h
    rw [of_decide_eq_true h1, of_decide_eq_true h2, of_decide_eq_true h3, of_decide_eq_true h4]
def intGB (K : PySem.W.Frag) (x : Str) (i : Int) : Bool := match PySem.W.nsIn K mainGlobals x with
  | some (some (.int j _)) => decide (j = i)
  | _ => false
theorem intG {x : Str} {i : Int} (h : intGB K x i = true) : ∃ t, PySem.W.nsIn K mainGlobals x = some (some (.int i t)) := by
  unfold intGB at h
  generalize PySem.W.nsIn K mainGlobals x = o at h
  match o, h with
  | some (some (.int j t)), h => exact ⟨t, by rw [show j = i from of_decide_eq_true h]⟩
def strGB (K : PySem.W.Frag) (x z : Str) : Bool := match PySem.W.nsIn K mainGlobals x with
  | some (some (.str j _)) => decide (j = z)
  | _ => false
theorem strG {x z : Str} (h : strGB K x z = true) : ∃ t, PySem.W.nsIn K mainGlobals x = some (some (.str z t)) := by
  unfold strGB at h
  generalize PySem.W.nsIn K mainGlobals x = o at h
  match o, h with
  | some (some (.str j t)), h => exact ⟨t, by rw [show j = z from of_decide_eq_true h]⟩
def clsB (K : PySem.W.Frag) (C : Addr) (nm : Str) : Bool := match K.lookup C with
  | some ⟨.type t, _, .cls _, sl⟩ => decide (t = "type") && nmAt sl[2]? nm
  | _ => false
theorem cls {C : Addr} {nm : Str} (t : clsB K C nm = true) : ∃ od cd sl tk, K.lookup C = some ⟨.type "type", od, .cls cd, sl⟩ ∧ sl[2]? = some (some (.str nm tk)) := by
  unfold clsB at t
  cases q : K.lookup C with
  | none => rw [q] at t; cases t
  | some o =>
    obtain ⟨oc, od, dt, osl⟩ := o
    rw [q] at t
    cases oc with
    | type c =>
      cases dt with
      | cls cd =>
        obtain ⟨t1, t2⟩ := He.ba (show (decide (c = "type") && nmAt osl[2]? nm) = true from t)
        have t1 := of_decide_eq_true t1
        subst t1
        obtain ⟨tk, qs⟩ := nmAt_ok t2
        exact ⟨od, cd, osl, tk, rfl, qs⟩
      | _ => cases t
    | _ => cases t
def bltAt (o : Option (Option Value)) (b : String) : Bool := match o with
  | some (some (.builtin x)) => decide (x = b)
  | _ => false
theorem bltAt_ok {o : Option (Option Value)} {b : String} (h : bltAt o b = true) : o = some (some (.builtin b)) := by
  match o, h with
  | some (some (.builtin x)), h => rw [show x = b from of_decide_eq_true h]
def mroAt (l : List Value) (C : Addr) : Bool := match l with
  | .ref D :: bm => decide (D = C) && PySem.HandSPX.refsVE bm
  | _ => false
theorem mroAt_ok {l : List Value} {C : Addr} (h : mroAt l C = true) : ∃ bm, l = .ref C :: bm ∧ PySem.HandSPX.refsVE bm = true := by
  match l, h with
  | .ref D :: bm, h =>
    obtain ⟨b1, b2⟩ := He.ba (show (decide (D = C) && PySem.HandSPX.refsVE bm) = true from h)
    exact ⟨bm, by rw [of_decide_eq_true b1], b2⟩
/-- an own exception class over ValueError -/
def oexC (C : Addr) (o : Obj) : Bool := match o with
  | ⟨.type t, _, .cls cd, sl⟩ => decide (t = "type") && (decide (sl.size = 6) && (bltAt sl[4]? "ValueError.__new__" && (mroAt cd.mro C && (cd.hasDict && !cd.hasDel))))
  | _ => false
def oexB (K : PySem.W.Frag) (C : Addr) : Bool := (match K.lookup C with
  | some o => oexC C o
  | _ => false) && (decide (PySem.W.findIn K (.ref C) "__setattr__" = some (some (.builtin "object.__setattr__"))) && (decide (PySem.W.subIn K (.ref C) (.type "BaseException") = some true) && (decide (PySem.W.typeIn K (.ref C) = some (.type "type")) && PySem.W.keepIn K (.ref C))))
theorem slots6 {sl : Array (Option Value)} (h : sl.size = 6) (h4 : sl[4]? = some (some (.builtin "ValueError.__new__"))) : ∃ k0 k1 k2 k3 k5, sl = #[k0, k1, k2, k3, some (.builtin "ValueError.__new__"), k5] := by
  obtain ⟨l⟩ := sl
  match l, h, h4 with
  | [k0, k1, k2, k3, k4, k5], _, h4 =>
    have h4 : k4 = some (.builtin "ValueError.__new__") := by simpa using h4
    subst h4
    exact ⟨k0, k1, k2, k3, k5, rfl⟩
theorem oex {C : Addr} (h : oexB K C = true) : OexC K C := by
  unfold oexB at h
  obtain ⟨h1, h⟩ := He.ba h
  obtain ⟨h2, h⟩ := He.ba h
  obtain ⟨h3, h⟩ := He.ba h
  obtain ⟨h4, h5⟩ := He.ba h
  refine ⟨?_, of_decide_eq_true h2, of_decide_eq_true h3, of_decide_eq_true h4, h5⟩
  cases q : K.lookup C with
  | none => rw [q] at h1; cases h1
  | some o =>
    rw [q] at h1
    have h1 : oexC C o = true := h1
    obtain ⟨oc, od, dt, osl⟩ := o
    unfold oexC at h1
    cases oc with
    | type c =>
      cases dt with
      | cls cd =>
        obtain ⟨a1, h1⟩ := He.ba (show (decide (c = "type") && (decide (osl.size = 6) && (bltAt osl[4]? "ValueError.__new__" && (mroAt cd.mro C && (cd.hasDict && !cd.hasDel))))) = true from h1)
        obtain ⟨a2, h1⟩ := He.ba h1
        obtain ⟨a3, h1⟩ := He.ba h1
        obtain ⟨a4, h1⟩ := He.ba h1
        obtain ⟨a5, a6⟩ := He.ba h1
        have a1 := of_decide_eq_true a1
        subst a1
        obtain ⟨n1, n2, n3, n4, n5, n6, n7, n8, n9, n10, n11⟩ := cd
        dsimp only at a4 a5 a6
        obtain ⟨k0, k1, k2, k3, k5, rfl⟩ := slots6 (of_decide_eq_true a2) (bltAt_ok a3)
        obtain ⟨bm, rfl, b2⟩ := mroAt_ok a4
        subst a5
        have a6 : n11 = false := by simpa using a6
        subst a6
        exact ⟨_, _, _, _, _, _, _, _, _, _, _, _, _, _, _, rfl, b2⟩
      | _ => cases h1
    | _ => cases h1
end
/-! ### one run, the facts in several looks -/
/-- a further look at what the top leaves -/
def RunB (r : PySem.W.OpenRow) (M : Nat) (fs : Fs) (fn : Fn) (w : World) : Prop := ∀ os : OsState, (HandSHeadRun.endF (HandSHeadRun.stepQ (HandSHeadRun.denQ HandSHeadRun.tabQ) r.prog w) M r.prog w os).map (fun s => obsG 5 fs fn (HandSHeadRun.getT s)) = some (val fn)
theorem join {S A B : Type} {X : Option S} {p : S → A} {q : S → B} {fA fB : Fs} {nA nB : Fn} {g : S → Addr → Option Obj} {a : A} {b : B}
    (h1 : X.map (fun s => (p s, q s, obsG 5 fA nA (g s))) = some (a, b, val nA)) (h2 : X.map (fun s => obsG 5 fB nB (g s)) = some (val nB)) : X.map (fun s => (p s, q s, obsG 5 (fA ++ fB) (nA ++ nB) (g s))) = some (a, b, val (nA ++ nB)) := by
  cases X with
  | none => cases h1
  | some s =>
    have h1 := Option.some.inj h1
    have h2 := Option.some.inj h2
    have e1 : p s = a := congrArg (fun z => z.1) h1
    have e2 : q s = b := congrArg (fun z => z.2.1) h1
    have e3 : obsG 5 fA nA (g s) = val nA := congrArg (fun z => z.2.2) h1
    have e4 : (fA.all fun f => f (He.frG (g s) (asX (g s) 5))) = true := congrArg (fun z : Al => z.1) e3
    have e5 : (fB.all fun f => f (He.frG (g s) (asX (g s) 5))) = true := congrArg (fun z : Al => z.1) h2
    have e6 : (nA.map fun d => fnR (He.frG (g s) (asX (g s) 5)) (d.1 (He.frG (g s) (asX (g s) 5)))) = nA.map (·.2) := congrArg (fun z : Al => z.2) e3
    have e7 : (nB.map fun d => fnR (He.frG (g s) (asX (g s) 5)) (d.1 (He.frG (g s) (asX (g s) 5)))) = nB.map (·.2) := congrArg (fun z : Al => z.2) h2
    show some (p s, q s, ((fA ++ fB).all fun f => f (He.frG (g s) (asX (g s) 5)), (nA ++ nB).map fun d => fnR (He.frG (g s) (asX (g s) 5)) (d.1 (He.frG (g s) (asX (g s) 5))))) = some (a, b, true, (nA ++ nB).map (·.2))
    rw [e1, e2, List.map_append, List.map_append, e6, e7, List.all_append, e4, e5]
    rfl
end HHk
/-! the top's run in pieces, the states between them told -/
noncomputable section
namespace HTp
open PySem PySem.W PySem.Calls PyProof.Rows HandSHeadRun
section
variable (st : SharedT → Thread → Option (SharedT × Thread)) (n0 : Nat) (ann : Option Value)
/-- to the end of a piece -/
def segF : Nat → SharedT → Thread → Option (Flow × SharedT × Code × Pos)
  | 0, _, _ => none
  | m + 1, s, t => (match endAt 1 t with
    | some f => some (f, s, t.code, t.pos)
    | none => (match stepOk n0 ann t with
      | false => none
      | true => (match st s t with
        | none => none
        | some (s', t') => frS s' fun s' => segF m s' t')))
/-- to the module's body -/
def preF : Nat → SharedT → Thread → Option (SharedT × Thread)
  | 0, _, _ => none
  | m + 1, s, t => (match Nat.beq t.stack.length 1 with
    | true => some (s, t)
    | false => (match through t with
      | true => none
      | false => (match stepOk n0 ann t with
        | false => none
        | true => (match st s t with
          | none => none
          | some (s', t') => frS s' fun s' => preF m s' t'))))
end
theorem segF_ok {tb : String → Option Builtin} {p : Program} {w : World} {n0 : Nat} {ann : Option Value} : ∀ {m : Nat} {s s' : SharedT} {t : Thread} {f : Flow} {c : Code} {q : Pos},
    segF (stepT (denote tb) p w) n0 ann m s t = some (f, s', c, q) → segRunT tb p w n0 ann 1 m s t = some (f, s', c, q)
  | 0, _, _, _, _, _, _, h => by cases h
  | m + 1, s, s', t, f, c, q, h => by
    unfold segF at h
    unfold segRunT
    cases z : endAt 1 t with
    | some x => simp only [z] at h ⊢; exact h
    | none =>
      simp only [z] at h ⊢
      cases y : stepOk n0 ann t with
      | false => simp only [y] at h; cases h
      | true =>
        simp only [y] at h ⊢
        cases x : stepT (denote tb) p w s t with
        | none => simp only [x] at h; cases h
        | some r =>
          obtain ⟨s2, t2⟩ := r
          simp only [x, frS_eq] at h ⊢
          exact segF_ok h
theorem preF_ok {tb : String → Option Builtin} {p : Program} {w : World} {n0 : Nat} {ann : Option Value} : ∀ {m : Nat} {s s' : SharedT} {t t' : Thread},
    preF (stepT (denote tb) p w) n0 ann m s t = some (s', t') → ∃ k, k ≤ m ∧ topGo tb p w n0 ann k s.abs t = some (s'.abs, t')
  | 0, _, _, _, _, h => by cases h
  | m + 1, s, s', t, t', h => by
    unfold preF at h
    cases z : Nat.beq t.stack.length 1 with
    | true =>
      simp only [z] at h
      cases h
      exact ⟨0, Nat.zero_le _, rfl⟩
    | false =>
      simp only [z] at h
      cases v : through t with
      | true => simp only [v] at h; cases h
      | false =>
        simp only [v] at h
        cases y : stepOk n0 ann t with
        | false => simp only [y] at h; cases h
        | true =>
          simp only [y] at h
          cases x : stepT (denote tb) p w s t with
          | none => simp only [x] at h; cases h
          | some r =>
            obtain ⟨s2, t2⟩ := r
            simp only [x, frS_eq] at h
            obtain ⟨k, hk, e⟩ := preF_ok h
            refine ⟨k + 1, Nat.succ_le_succ hk, ?_⟩
            unfold topGo
            simp only [v, y, stepT_spec x]
            exact e
/-- from the boot to the first statement -/
def leadF (st : SharedT → Thread → Option (SharedT × Thread)) (p : Program) (w : World) (os : OsState) (b : List Stmt) (env : Env) (q : Pos) : Option (Thread × (Flow × SharedT × Code × Pos)) :=
  match putAll (boot_heap w.params).objs.toList .nil 0 with
  | none => none
  | some (t, n) => frNat n fun n0 => (match preF st n0 (bootAnn w) 1000 (bootT w os (t, n0)) (topStub p) with
    | none => none
    | some (sa, ta) => (match segF st n0 (bootAnn w) 1000 sa (blockOf b env (.body b env) ta.pos [topFrame q]) with
      | none => none
      | some r => some (ta, r)))
abbrev st (p : Program) (w : World) : SharedT → Thread → Option (SharedT × Thread) := stepQ (denQ tabQ) p w
theorem st_eq (p : Program) (w : World) : stepT (denote treeTable) p w = st p w := by rw [stepQ_eq, denQ_eq, tabQ_eq]
abbrev an : Option Value := some (.ref 6)
theorem boot_n (w : World) : (boot_heap w.params).objs.size = 11 := by kernel_rfl
theorem boot_an (w : World) : bootAnn w = an := by kernel_rfl
/-- from a state it comes to another -/
def Goes (p : Program) (w : World) (N : Nat) (s : SharedT) (t : Thread) (r : SharedT) : Prop := topRun treeTable p w 11 an N s.abs t = some r.abs
section
variable {p : Program} {w : World} {os : OsState} {b : List Stmt} {env : Env} {q : Pos} {c : Code} {N : Nat} {s s' r : SharedT} {pos pos' : Pos}
theorem seg_ {n i m : Nat} (h : segF (st p w) 11 an n s (piecesOf ((b.drop i).take m) env c pos [topFrame q]) = some (.next, s', c, pos')) (k : Goes p w N s' (restOf (b.drop (i + m)) env c pos' [topFrame q]) r) :
    Goes p w (n + N) s (restOf (b.drop i) env c pos [topFrame q]) r := by
  rw [← st_eq] at h
  have e : b.drop i = (b.drop i).take m ++ b.drop (i + m) := by rw [← List.drop_drop, List.take_append_drop]
  rw [e]
  exact piece_app (segRun_of (segF_ok h)) k
theorem lead_ {posA : Pos} (h : leadF (st p w) p w os b env q = some (⟨denQ tabQ (.body b env), .body b env, posA, [topFrame q]⟩, (.next, s, .body b env, pos))) (k : Goes p w N s (restOf b env (.body b env) pos [topFrame q]) r) :
    topRun treeTable p w (boot_heap w.params).objs.size (bootAnn w) (2000 + N) ⟨boot_heap w.params, #[], boot_drawn, boot_toks, os⟩ (topStub p) = some r.abs := by
  unfold leadF at h
  cases e : putAll (boot_heap w.params).objs.toList .nil 0 with
  | none => simp only [e] at h; cases h
  | some x =>
    obtain ⟨t, n⟩ := x
    simp only [e, frNat_eq] at h
    have eh := putAll_heap e
    have en : n = 11 := by
      rw [← boot_n w, ← eh]
      exact (absHeap_size t n _).symm
    subst en
    rw [boot_an] at h
    rw [boot_n, boot_an]
    have eb : (bootT w os (t, 11)).abs = ⟨boot_heap w.params, #[], boot_drawn, boot_toks, os⟩ := by
      show (⟨absHeap t 11 (boot_heap w.params).life, #[], boot_drawn, boot_toks, os⟩ : Shared) = ⟨boot_heap w.params, _, _, _, _⟩
      rw [eh]
    cases e2 : preF (st p w) 11 an 1000 (bootT w os (t, 11)) (topStub p) with
    | none => simp only [e2] at h; cases h
    | some y =>
      obtain ⟨sa, ta⟩ := y
      simp only [e2] at h
      cases e3 : segF (st p w) 11 an 1000 sa (blockOf b env (.body b env) ta.pos [topFrame q]) with
      | none => simp only [e3] at h; cases h
      | some z =>
        simp only [e3] at h
        obtain ⟨rfl, rfl⟩ : ta = _ ∧ z = _ := by simpa only [Prod.mk.injEq] using Option.some.inj h
        rw [← st_eq] at e2 e3
        obtain ⟨k1, hk1, g⟩ := preF_ok e2
        rw [eb] at g
        have dq : denQ tabQ (.body b env) = denote treeTable (.body b env) := by rw [denQ_eq, tabQ_eq]
        rw [dq] at g
        have g2 := go_top g (piece_block (segRun_of (segF_ok e3)) k)
        have g3 := topRun_mono (1000 - k1) _ _ _ _ g2
        rw [show k1 + (1000 + N) + (1000 - k1) = 2000 + N by omega] at g3
        exact g3
/-- the end: the looks -/
theorem fin_ {A : Type} {m : Nat} {t : Thread} {f : SharedT → A} {y : A} (h : (goF (st p w) 11 an m s t).map f = some y) : ∃ r, Goes p w m s t r ∧ f r = y := by
  obtain ⟨r, h1, h2⟩ := Option.map_eq_some_iff.mp h
  rw [← st_eq] at h1
  exact ⟨r, goF_ok h1, h2⟩
end
theorem left_top {p q : Program} {loose : List Str} {Xt : Shared → Bool} {al : Type} {Yf : Shared → al} {Ya : World → al} {N M : Nat}
    (e : opening p = plainProg p.main.scope.names) (hN : Nat.ble 600 N = true) (fm : ∀ s, fenceModules? p s = some s) (le : Nat.ble M N = true)
    (run : ∀ (w : World) (os : OsState), ∃ s : Shared, topRun treeTable p w (boot_heap w.params).objs.size (bootAnn w) M ⟨boot_heap w.params, #[], boot_drawn, boot_toks, os⟩ (topStub p) = some s ∧
      looksF p (boot_heap w.params) s = true ∧ openSeen q loose (importedModules p.main.body) Xt true s = openGood q loose ∧ Yf s = Ya w) : LeftO p q loose Xt Yf Ya N true := by
  intro w
  obtain ⟨⟨h0, g0, d0, k0, os⟩, a1, a2⟩ := Option.map_eq_some_iff.mp (boot_open e hN fm w)
  have a3 : h0 = boot_heap w.params ∧ g0 = Array.mk [] ∧ d0 = boot_drawn ∧ k0 = boot_toks := by
    simpa using a2
  obtain ⟨rfl, rfl, rfl, rfl⟩ := a3
  obtain ⟨s, hr, y1, y2, y3⟩ := run w os
  have hr := topRun_mono (N - M) _ _ _ _ hr
  have eN : M + (N - M) = N := Nat.add_sub_cancel' (Nat.le_of_ble_eq_true le)
  rw [eN] at hr
  have y1' : (staticsOk (importedModules p.main.body) (boot_heap w.params) s.heap && namesBound p s.heap && gensDone s && laidKept (boot_heap w.params) s.heap) = true := y1
  have ht : topFrom treeTable p w N ⟨boot_heap w.params, Array.mk [], boot_drawn, boot_toks, os⟩ = some s := by
    unfold topFrom
    dsimp only
    rw [boot_ns]
    show (Option.bind (topRun treeTable p w (boot_heap w.params).objs.size (bootAnn w) N ⟨boot_heap w.params, #[], boot_drawn, boot_toks, os⟩ (topStub p)) _) = _
    rw [hr]
    show (match (staticsOk (importedModules p.main.body) (boot_heap w.params) s.heap && namesBound p s.heap && gensDone s && laidKept (boot_heap w.params) s.heap) with | true => some s | false => none) = _
    rw [y1']
  unfold openEnds
  rw [a1]
  show Option.map _ (topFrom treeTable p w N _) = _
  rw [ht]
  refine congrArg some ?_
  exact Prod.ext y2 y3
theorem head_top {r : OpenRow} {q : Program} {H : Hook} {ob : SharedT → H.α} {M : Nat} {loose : List PySem.Str} {d : DefRec} {kwd : List (PySem.Str × PySem.Expr)} (ho : ∀ s : SharedT, ob s = H.obs s.abs)
    (e : opening r.prog = plainProg r.prog.main.scope.names) (fm : ∀ s, fenceModules? r.prog s = some s)
    (run : ∀ (w : World) (os : OsState), ∃ s : SharedT, topRun treeTable r.prog w (boot_heap w.params).objs.size (bootAnn w) M ⟨boot_heap w.params, #[], boot_drawn, boot_toks, os⟩ (topStub r.prog) = some s.abs ∧
      (looksF r.prog (boot_heap w.params) s.abs, seenQ q loose (importedModules r.prog.main.body) (fun s => xlAt q [] s && recOk r.toRowW.records s) s.abs, ob s) = (true, openGood q loose, H.val w))
    (hdef : defOf q r.name = some (d, kwd)) (hp : r.prog.theDef r.name = some (d.params, d.body, d.scope)) (hk : kwWritten? d.params.kwonlyargs d.params.kw_defaults = some kwd)
    (hwr : (!r.writes || r.records.isEmpty) = true) (k1 : r.wellSaid = true) (ok : (chainsOk q && opensWell r.prog && (frees r.toRowW && r.within.isEmpty)) = true) (hb : r.prog.bare) (hw : r.toRowW.promised)
    (call : WalkO q loose (XL q []) H.says r.toRowW d kwd fun f vs => PySem.call f vs) : r.Holds := by
  have lf : LeftO r.prog q loose (fun s => xlAt q [] s && recOk r.toRowW.records s) H.obs H.val (M + 600) true := by
    refine left_top (M := M) e (Nat.ble_eq_true_of_le (Nat.le_add_left 600 M)) fm (Nat.ble_eq_true_of_le (Nat.le_add_right M 600)) fun w os => ?_
    obtain ⟨s, h1, h2⟩ := run w os
    have z1 := congrArg (·.1) h2
    have z2 := congrArg (·.2.1) h2
    have z3 := congrArg (·.2.2) h2
    exact ⟨s.abs, h1, z1, (seenQ_eq q loose _ _ s.abs).trans z2, (ho s).symm.trans z3⟩
  refine holds_open (r := r) (q := q) (loose := loose) (XP := XL q []) (YP := H.says) (d := d) (kwd := kwd) lf H.of H.keeps ?_ XL.keeps hdef hp hk ?_ hwr k1 ok hb hw call
  · intro s z
    exact xl_of s (Bool.and_eq_true_iff.mp z).1
  · intro s z
    exact recFacts_of (Bool.and_eq_true_iff.mp z).2
/-- what is asked behind the top -/
abbrev Asks (r : OpenRow) (q : Program) (loose : List PySem.Str) {al : Type} (ob : SharedT → al) (w : World) (s : SharedT) :=
  (looksF r.prog (boot_heap w.params) s.abs, seenQ q loose (importedModules r.prog.main.body) (fun s => xlAt q [] s && recOk r.toRowW.records s) s.abs, ob s)
abbrev Due (q : Program) (loose : List PySem.Str) {al : Type} (v : al) := (true, openGood q loose, v)
/-- from the boot to a state -/
abbrev Whole (p : Program) (w : World) (os : OsState) (M : Nat) (s : SharedT) : Prop :=
  topRun treeTable p w (boot_heap w.params).objs.size (bootAnn w) M ⟨boot_heap w.params, #[], boot_drawn, boot_toks, os⟩ (topStub p) = some s.abs
/-! words of the told states -/
abbrev rf (a : Nat) : Value := .ref a
abbrev tx (x : PySem.Str) (t : Nat) : Value := .str x t
abbrev nt (i : Int) (t : Nat) : Value := .int i t
abbrev ob (c : Value) (d : Data) : Obj := ⟨c, none, d, #[]⟩
abbrev tp (xs : List Value) (n : Nat) : Obj := ⟨.type "tuple", none, .seq xs.toArray n, #[]⟩
abbrev fl (c : Value) (xs : List Value) : Obj := ⟨c, none, .fields xs.toArray, #[]⟩
abbrev en (P : Params) (x : PySem.Str) (t : Nat) (v : Value) : DictEntry := ⟨PyData.keyHash P x, .str x t, v⟩
end HTp
end
namespace D20
open PySem PySem.Spec PyProof.Rows L2
def topS (i : Nat) : Stmt := PySem.Challenge.pw_fourthlike_k20_papers_on_powers_bent.main.body.getD i (.Pass ⟨0, 0, 0, 0⟩)
abbrev s_fixed : Stmt := (topS 1)
abbrev s_Paper_init : Stmt := (inClass (topS 2) 0)
abbrev s_is_integer : Stmt := (topS 5)
abbrev s_is_within : Stmt := (topS 6)
abbrev s_Whole_init : Stmt := (inClass (topS 13) 0)
abbrev s_NoWhole_init : Stmt := (inClass (topS 14) 0)
abbrev s_need_number : Stmt := (topS 15)
abbrev s_raised : Stmt := (topS 16)
abbrev s_lifted : Stmt := (topS 17)
abbrev s_sum_at : Stmt := (topS 18)
abbrev s_holds_by : Stmt := (topS 19)
abbrev s_ByPower_init : Stmt := (inClass (topS 21) 0)
abbrev s_Between_init : Stmt := (inClass (topS 22) 0)
abbrev s_need_growing : Stmt := (topS 23)
abbrev s_least_step : Stmt := (topS 24)
abbrev s_power_of : Stmt := (topS 25)
abbrev s_Uneven_init : Stmt := (inClass (topS 27) 0)
abbrev s_is_between : Stmt := (topS 29)
abbrev s_shows_power : Stmt := (topS 30)
abbrev s__law_hat : Stmt := (topS 32)
abbrev s__law_lot : Stmt := (topS 33)
abbrev s__law_one : Stmt := (topS 34)
abbrev s__law_any : Stmt := (topS 35)
abbrev s__law_grows : Stmt := (topS 36)
abbrev s__law_planted : Stmt := (topS 37)
abbrev s__law_four : Stmt := (topS 38)
abbrev s__law_raised : Stmt := (topS 39)
abbrev s__law_sum : Stmt := (topS 40)
abbrev s__law_is_by : Stmt := (topS 41)
abbrev s__law_is_whole : Stmt := (topS 42)
abbrev s__law_lies_between : Stmt := (topS 43)
abbrev s__law_is_power : Stmt := (topS 44)
abbrev s__law_values : Stmt := (topS 45)
abbrev s_law : Stmt := (topS 46)
def names0 : List PySem.Str := ["__name__",
  "fixed",
  "Paper",
  "Denial",
  "is_integer",
  "is_within",
  "LikeError",
  "BadNumber",
  "MOST_POWER",
  "MOST_TOLD",
  "Whole",
  "NoWhole",
  "need_number",
  "raised",
  "lifted",
  "sum_at",
  "holds_by",
  "ByPower",
  "Between",
  "need_growing",
  "least_step",
  "power_of",
  "Uneven",
  "is_between",
  "shows_power",
  "_law_hat",
  "_law_lot",
  "_law_one",
  "_law_any",
  "_law_grows"]
def names1 : List PySem.Str := ["_law_planted",
  "_law_four",
  "_law_raised",
  "_law_sum",
  "_law_is_by",
  "_law_is_whole",
  "_law_lies_between",
  "_law_is_power",
  "_law_values"]
def names : List PySem.Str := names0 ++ (names1)
def fs0 : HHk.Fs := [fun K => decide (PySem.W.nsIn K mainGlobals "Paper" = some (some (.ref (He.ga K "Paper")))),
  fun K => decide (PySem.W.nsIn K mainGlobals "Whole" = some (some (.ref (He.ga K "Whole")))),
  fun K => decide (PySem.W.nsIn K mainGlobals "Denial" = some (some (.ref (He.ga K "Denial")))),
  fun K => decide (PySem.W.nsIn K mainGlobals "NoWhole" = some (some (.ref (He.ga K "NoWhole")))),
  fun K => decide (PySem.W.nsIn K mainGlobals "ByPower" = some (some (.ref (He.ga K "ByPower")))),
  fun K => decide (PySem.W.nsIn K mainGlobals "Between" = some (some (.ref (He.ga K "Between")))),
  fun K => decide (PySem.W.nsIn K mainGlobals "Uneven" = some (some (.ref (He.ga K "Uneven")))),
  fun K => decide (PySem.W.nsIn K mainGlobals "fixed" = some (some (.ref (He.ga K "fixed")))),
  fun K => HHk.codeB K (He.ga K "fixed") "fixed",
  fun K => PySem.W.keepIn K (.ref (He.ga K "fixed")),
  fun K => decide (PySem.W.findIn K (.ref (He.ga K "Paper")) "__init__" = some (some (.ref (He.ma K (He.ga K "Paper") "__init__")))),
  fun K => HHk.codeB K (He.ma K (He.ga K "Paper") "__init__") "Paper.__init__",
  fun K => decide (PySem.W.nsIn K mainGlobals "is_integer" = some (some (.ref (He.ga K "is_integer")))),
  fun K => HHk.codeB K (He.ga K "is_integer") "is_integer",
  fun K => PySem.W.keepIn K (.ref (He.ga K "is_integer")),
  fun K => decide (PySem.W.nsIn K mainGlobals "is_within" = some (some (.ref (He.ga K "is_within")))),
  fun K => HHk.codeB K (He.ga K "is_within") "is_within",
  fun K => PySem.W.keepIn K (.ref (He.ga K "is_within")),
  fun K => decide (PySem.W.findIn K (.ref (He.ga K "Whole")) "__init__" = some (some (.ref (He.ma K (He.ga K "Whole") "__init__")))),
  fun K => HHk.supB K (He.ma K (He.ga K "Whole") "__init__") (He.ga K "Whole") "Whole.__init__" PySem.Challenge.rw_fourthlike_k20_papers_on_powers_bent.prog.main.file]
def fs1 : HHk.Fs := [fun K => decide (PySem.W.nsIn K mainGlobals "super" = some none),
  fun K => decide (PySem.W.findIn K (.ref (He.ga K "NoWhole")) "__init__" = some (some (.ref (He.ma K (He.ga K "NoWhole") "__init__")))),
  fun K => HHk.supB K (He.ma K (He.ga K "NoWhole") "__init__") (He.ga K "NoWhole") "NoWhole.__init__" PySem.Challenge.rw_fourthlike_k20_papers_on_powers_bent.prog.main.file,
  fun K => decide (PySem.W.nsIn K mainGlobals "need_number" = some (some (.ref (He.ga K "need_number")))),
  fun K => HHk.codeB K (He.ga K "need_number") "need_number",
  fun K => PySem.W.keepIn K (.ref (He.ga K "need_number")),
  fun K => decide (PySem.W.nsIn K mainGlobals "raised" = some (some (.ref (He.ga K "raised")))),
  fun K => HHk.codeB K (He.ga K "raised") "raised",
  fun K => PySem.W.keepIn K (.ref (He.ga K "raised")),
  fun K => decide (PySem.W.nsIn K mainGlobals "lifted" = some (some (.ref (He.ga K "lifted")))),
  fun K => HHk.codeB K (He.ga K "lifted") "lifted",
  fun K => PySem.W.keepIn K (.ref (He.ga K "lifted")),
  fun K => decide (PySem.W.nsIn K mainGlobals "sum_at" = some (some (.ref (He.ga K "sum_at")))),
  fun K => HHk.codeB K (He.ga K "sum_at") "sum_at",
  fun K => PySem.W.keepIn K (.ref (He.ga K "sum_at")),
  fun K => decide (PySem.W.nsIn K mainGlobals "holds_by" = some (some (.ref (He.ga K "holds_by")))),
  fun K => HHk.codeB K (He.ga K "holds_by") "holds_by",
  fun K => PySem.W.keepIn K (.ref (He.ga K "holds_by")),
  fun K => decide (PySem.W.findIn K (.ref (He.ga K "ByPower")) "__init__" = some (some (.ref (He.ma K (He.ga K "ByPower") "__init__")))),
  fun K => HHk.supB K (He.ma K (He.ga K "ByPower") "__init__") (He.ga K "ByPower") "ByPower.__init__" PySem.Challenge.rw_fourthlike_k20_papers_on_powers_bent.prog.main.file]
def fs2 : HHk.Fs := [fun K => decide (PySem.W.findIn K (.ref (He.ga K "Between")) "__init__" = some (some (.ref (He.ma K (He.ga K "Between") "__init__")))),
  fun K => HHk.supB K (He.ma K (He.ga K "Between") "__init__") (He.ga K "Between") "Between.__init__" PySem.Challenge.rw_fourthlike_k20_papers_on_powers_bent.prog.main.file,
  fun K => decide (PySem.W.nsIn K mainGlobals "need_growing" = some (some (.ref (He.ga K "need_growing")))),
  fun K => HHk.codeB K (He.ga K "need_growing") "need_growing",
  fun K => PySem.W.keepIn K (.ref (He.ga K "need_growing")),
  fun K => decide (PySem.W.nsIn K mainGlobals "least_step" = some (some (.ref (He.ga K "least_step")))),
  fun K => HHk.codeB K (He.ga K "least_step") "least_step",
  fun K => PySem.W.keepIn K (.ref (He.ga K "least_step")),
  fun K => decide (PySem.W.nsIn K mainGlobals "power_of" = some (some (.ref (He.ga K "power_of")))),
  fun K => HHk.codeB K (He.ga K "power_of") "power_of",
  fun K => PySem.W.keepIn K (.ref (He.ga K "power_of")),
  fun K => decide (PySem.W.findIn K (.ref (He.ga K "Uneven")) "__init__" = some (some (.ref (He.ma K (He.ga K "Uneven") "__init__")))),
  fun K => HHk.supB K (He.ma K (He.ga K "Uneven") "__init__") (He.ga K "Uneven") "Uneven.__init__" PySem.Challenge.rw_fourthlike_k20_papers_on_powers_bent.prog.main.file,
  fun K => decide (PySem.W.nsIn K mainGlobals "is_between" = some (some (.ref (He.ga K "is_between")))),
  fun K => HHk.codeB K (He.ga K "is_between") "is_between",
  fun K => PySem.W.keepIn K (.ref (He.ga K "is_between")),
  fun K => decide (PySem.W.nsIn K mainGlobals "shows_power" = some (some (.ref (He.ga K "shows_power")))),
  fun K => HHk.codeB K (He.ga K "shows_power") "shows_power",
  fun K => PySem.W.keepIn K (.ref (He.ga K "shows_power")),
  fun K => decide (PySem.W.nsIn K mainGlobals "_law_hat" = some (some (.ref (He.ga K "_law_hat"))))]
def fs3 : HHk.Fs := [fun K => HHk.codeB K (He.ga K "_law_hat") "_law_hat",
  fun K => PySem.W.keepIn K (.ref (He.ga K "_law_hat")),
  fun K => decide (PySem.W.nsIn K mainGlobals "_law_lot" = some (some (.ref (He.ga K "_law_lot")))),
  fun K => HHk.codeB K (He.ga K "_law_lot") "_law_lot",
  fun K => PySem.W.keepIn K (.ref (He.ga K "_law_lot")),
  fun K => decide (PySem.W.nsIn K mainGlobals "_law_one" = some (some (.ref (He.ga K "_law_one")))),
  fun K => HHk.codeB K (He.ga K "_law_one") "_law_one",
  fun K => PySem.W.keepIn K (.ref (He.ga K "_law_one")),
  fun K => decide (PySem.W.nsIn K mainGlobals "_law_any" = some (some (.ref (He.ga K "_law_any")))),
  fun K => HHk.codeB K (He.ga K "_law_any") "_law_any",
  fun K => PySem.W.keepIn K (.ref (He.ga K "_law_any")),
  fun K => decide (PySem.W.nsIn K mainGlobals "_law_grows" = some (some (.ref (He.ga K "_law_grows")))),
  fun K => HHk.codeB K (He.ga K "_law_grows") "_law_grows",
  fun K => PySem.W.keepIn K (.ref (He.ga K "_law_grows")),
  fun K => decide (PySem.W.nsIn K mainGlobals "_law_planted" = some (some (.ref (He.ga K "_law_planted")))),
  fun K => HHk.codeB K (He.ga K "_law_planted") "_law_planted",
  fun K => PySem.W.keepIn K (.ref (He.ga K "_law_planted")),
  fun K => decide (PySem.W.nsIn K mainGlobals "_law_four" = some (some (.ref (He.ga K "_law_four")))),
  fun K => HHk.codeB K (He.ga K "_law_four") "_law_four",
  fun K => PySem.W.keepIn K (.ref (He.ga K "_law_four"))]
def fs4 : HHk.Fs := [fun K => decide (PySem.W.nsIn K mainGlobals "_law_raised" = some (some (.ref (He.ga K "_law_raised")))),
  fun K => HHk.codeB K (He.ga K "_law_raised") "_law_raised",
  fun K => PySem.W.keepIn K (.ref (He.ga K "_law_raised")),
  fun K => decide (PySem.W.nsIn K mainGlobals "_law_sum" = some (some (.ref (He.ga K "_law_sum")))),
  fun K => HHk.codeB K (He.ga K "_law_sum") "_law_sum",
  fun K => PySem.W.keepIn K (.ref (He.ga K "_law_sum")),
  fun K => decide (PySem.W.nsIn K mainGlobals "_law_is_by" = some (some (.ref (He.ga K "_law_is_by")))),
  fun K => HHk.codeB K (He.ga K "_law_is_by") "_law_is_by",
  fun K => PySem.W.keepIn K (.ref (He.ga K "_law_is_by")),
  fun K => decide (PySem.W.nsIn K mainGlobals "_law_is_whole" = some (some (.ref (He.ga K "_law_is_whole")))),
  fun K => HHk.codeB K (He.ga K "_law_is_whole") "_law_is_whole",
  fun K => PySem.W.keepIn K (.ref (He.ga K "_law_is_whole")),
  fun K => decide (PySem.W.nsIn K mainGlobals "_law_lies_between" = some (some (.ref (He.ga K "_law_lies_between")))),
  fun K => HHk.codeB K (He.ga K "_law_lies_between") "_law_lies_between",
  fun K => PySem.W.keepIn K (.ref (He.ga K "_law_lies_between")),
  fun K => decide (PySem.W.nsIn K mainGlobals "_law_is_power" = some (some (.ref (He.ga K "_law_is_power")))),
  fun K => HHk.codeB K (He.ga K "_law_is_power") "_law_is_power",
  fun K => PySem.W.keepIn K (.ref (He.ga K "_law_is_power")),
  fun K => decide (PySem.W.nsIn K mainGlobals "_law_values" = some (some (.ref (He.ga K "_law_values")))),
  fun K => HHk.codeB K (He.ga K "_law_values") "_law_values"]
def fs5 : HHk.Fs := [fun K => PySem.W.keepIn K (.ref (He.ga K "_law_values")),
  fun K => decide (PySem.W.nsIn K mainGlobals "law" = some (some (.ref (He.ga K "law")))),
  fun K => HHk.codeB K (He.ga K "law") "law",
  fun K => PySem.W.keepIn K (.ref (He.ga K "law")),
  fun K => decide (PySem.W.specialIn K (.builtin "object.__class__") "__get__" = some (some (.builtin "getset_descriptor.__get__"))),
  fun K => decide (PySem.W.takesIn K (.builtin "object.__class__") = some true),
  fun K => decide (PySem.W.nsIn K cStatics "thirdparty.any" = some none),
  fun K => PySem.W.makesIn K (He.ga K "Between"),
  fun K => decide (PySem.W.findIn K (.ref (He.ga K "Between")) "__init__" = some (some (.ref (He.ma K (He.ga K "Between") "__init__")))),
  fun K => PySem.W.isFn K (.ref (He.ma K (He.ga K "Between") "__init__")),
  fun K => PySem.W.keepIn K (.ref (He.ga K "Between")),
  fun K => PySem.W.plainGet K (He.ga K "Between") Str.empty,
  fun K => PySem.W.hasDictIn K (He.ga K "Between"),
  fun K => PySem.W.plainOver K (He.ga K "Between"),
  fun K => decide (PySem.W.findIn K (.ref (He.ga K "Between")) "__setattr__" = some (some (.builtin "object.__setattr__"))),
  fun K => PySem.W.plainGet K (He.ga K "Between") "__class__",
  fun K => decide (PySem.W.findIn K (.ref (He.ga K "Between")) "__class__" = some (some (.builtin "object.__class__"))),
  fun K => decide (PySem.W.mroIn K (He.ga K "Between") (.type "object") = some true),
  fun K => PySem.W.readsIn K (He.ga K "Between") (.type "type"),
  fun K => HHk.getO (PySem.W.findCls K (.ref (He.ga K "Between")) (.type "type") "__name__") (.builtin "getset_descriptor.__get__") (.builtin "type.__name__") (.ref (He.ga K "Between")) (.type "type")]
def fs6 : HHk.Fs := [fun K => HHk.clsB K (He.ga K "Between") "Between",
  fun K => He.eqO (PySem.W.findIn K (.ref (He.ga K "Between")) "word") (some none),
  fun K => He.eqO (PySem.W.findIn K (.ref (He.ga K "Between")) "parts") (some none),
  fun K => decide (PySem.W.kitOne K (.ref (He.ga K "Between")) (.ref (He.ga K "Paper")) = some true),
  fun K => decide (PySem.W.ks_superIn K (He.ga K "Between") (He.ga K "Between") "__init__" = some (some (.ref (He.ma K (He.ga K "Paper") "__init__")))),
  fun K => decide (PySem.W.typeIn K (.ref (He.ma K (He.ga K "Paper") "__init__")) = some (.type "function")),
  fun K => PySem.W.fnIn K (He.ma K (He.ga K "Paper") "__init__"),
  fun K => decide (PySem.W.mroIn K (He.ga K "Between") (.ref (He.ga K "Between")) = some true),
  fun K => He.eqO (PySem.W.findIn K (.ref (He.ga K "Between")) "low") (some none),
  fun K => decide (PySem.W.kitOne K (.ref (He.ga K "Between")) (.ref (He.ga K "ByPower")) = some false),
  fun K => decide (PySem.W.kitOne K (.ref (He.ga K "Between")) (.ref (He.ga K "Between")) = some true),
  fun K => decide (PySem.W.kitOne K (.ref (He.ga K "Between")) (.type "list") = some false),
  fun K => decide (PySem.W.kitOne K (.ref (He.ga K "Between")) (.type "tuple") = some false),
  fun K => decide (PySem.W.kitOne K (.ref (He.ga K "Between")) (.type "int") = some false),
  fun K => decide (PySem.W.kitOne K (.ref (He.ga K "Between")) (.type "bool") = some false),
  fun K => PySem.W.makesIn K (He.ga K "ByPower"),
  fun K => decide (PySem.W.findIn K (.ref (He.ga K "ByPower")) "__init__" = some (some (.ref (He.ma K (He.ga K "ByPower") "__init__")))),
  fun K => PySem.W.isFn K (.ref (He.ma K (He.ga K "ByPower") "__init__")),
  fun K => PySem.W.keepIn K (.ref (He.ga K "ByPower")),
  fun K => PySem.W.plainGet K (He.ga K "ByPower") Str.empty]
def fs7 : HHk.Fs := [fun K => PySem.W.hasDictIn K (He.ga K "ByPower"),
  fun K => PySem.W.plainOver K (He.ga K "ByPower"),
  fun K => decide (PySem.W.findIn K (.ref (He.ga K "ByPower")) "__setattr__" = some (some (.builtin "object.__setattr__"))),
  fun K => PySem.W.plainGet K (He.ga K "ByPower") "__class__",
  fun K => decide (PySem.W.findIn K (.ref (He.ga K "ByPower")) "__class__" = some (some (.builtin "object.__class__"))),
  fun K => decide (PySem.W.mroIn K (He.ga K "ByPower") (.type "object") = some true),
  fun K => PySem.W.readsIn K (He.ga K "ByPower") (.type "type"),
  fun K => HHk.getO (PySem.W.findCls K (.ref (He.ga K "ByPower")) (.type "type") "__name__") (.builtin "getset_descriptor.__get__") (.builtin "type.__name__") (.ref (He.ga K "ByPower")) (.type "type"),
  fun K => HHk.clsB K (He.ga K "ByPower") "ByPower",
  fun K => He.eqO (PySem.W.findIn K (.ref (He.ga K "ByPower")) "word") (some none),
  fun K => He.eqO (PySem.W.findIn K (.ref (He.ga K "ByPower")) "parts") (some none),
  fun K => decide (PySem.W.kitOne K (.ref (He.ga K "ByPower")) (.ref (He.ga K "Paper")) = some true),
  fun K => decide (PySem.W.ks_superIn K (He.ga K "ByPower") (He.ga K "ByPower") "__init__" = some (some (.ref (He.ma K (He.ga K "Paper") "__init__")))),
  fun K => decide (PySem.W.typeIn K (.ref (He.ma K (He.ga K "Paper") "__init__")) = some (.type "function")),
  fun K => PySem.W.fnIn K (He.ma K (He.ga K "Paper") "__init__"),
  fun K => decide (PySem.W.mroIn K (He.ga K "ByPower") (.ref (He.ga K "ByPower")) = some true),
  fun K => He.eqO (PySem.W.findIn K (.ref (He.ga K "ByPower")) "power") (some none),
  fun K => decide (PySem.W.kitOne K (.ref (He.ga K "ByPower")) (.ref (He.ga K "ByPower")) = some true),
  fun K => decide (PySem.W.kitOne K (.ref (He.ga K "ByPower")) (.ref (He.ga K "Between")) = some false),
  fun K => decide (PySem.W.kitOne K (.ref (He.ga K "ByPower")) (.type "list") = some false)]
def fs8 : HHk.Fs := [fun K => decide (PySem.W.kitOne K (.ref (He.ga K "ByPower")) (.type "tuple") = some false),
  fun K => decide (PySem.W.kitOne K (.ref (He.ga K "ByPower")) (.type "int") = some false),
  fun K => decide (PySem.W.kitOne K (.ref (He.ga K "ByPower")) (.type "bool") = some false),
  fun K => PySem.W.makesIn K (He.ga K "Uneven"),
  fun K => decide (PySem.W.findIn K (.ref (He.ga K "Uneven")) "__init__" = some (some (.ref (He.ma K (He.ga K "Uneven") "__init__")))),
  fun K => PySem.W.isFn K (.ref (He.ma K (He.ga K "Uneven") "__init__")),
  fun K => PySem.W.keepIn K (.ref (He.ga K "Uneven")),
  fun K => PySem.W.plainGet K (He.ga K "Uneven") Str.empty,
  fun K => PySem.W.hasDictIn K (He.ga K "Uneven"),
  fun K => PySem.W.plainOver K (He.ga K "Uneven"),
  fun K => decide (PySem.W.findIn K (.ref (He.ga K "Uneven")) "__setattr__" = some (some (.builtin "object.__setattr__"))),
  fun K => PySem.W.plainGet K (He.ga K "Uneven") "__class__",
  fun K => decide (PySem.W.findIn K (.ref (He.ga K "Uneven")) "__class__" = some (some (.builtin "object.__class__"))),
  fun K => decide (PySem.W.mroIn K (He.ga K "Uneven") (.type "object") = some true),
  fun K => PySem.W.readsIn K (He.ga K "Uneven") (.type "type"),
  fun K => HHk.getO (PySem.W.findCls K (.ref (He.ga K "Uneven")) (.type "type") "__name__") (.builtin "getset_descriptor.__get__") (.builtin "type.__name__") (.ref (He.ga K "Uneven")) (.type "type"),
  fun K => HHk.clsB K (He.ga K "Uneven") "Uneven",
  fun K => He.eqO (PySem.W.findIn K (.ref (He.ga K "Uneven")) "word") (some none),
  fun K => He.eqO (PySem.W.findIn K (.ref (He.ga K "Uneven")) "parts") (some none),
  fun K => decide (PySem.W.kitOne K (.ref (He.ga K "Uneven")) (.ref (He.ga K "Paper")) = some true)]
def fs9 : HHk.Fs := [fun K => decide (PySem.W.ks_superIn K (He.ga K "Uneven") (He.ga K "Uneven") "__init__" = some (some (.ref (He.ma K (He.ga K "Paper") "__init__")))),
  fun K => decide (PySem.W.typeIn K (.ref (He.ma K (He.ga K "Paper") "__init__")) = some (.type "function")),
  fun K => PySem.W.fnIn K (He.ma K (He.ga K "Paper") "__init__"),
  fun K => decide (PySem.W.mroIn K (He.ga K "Uneven") (.ref (He.ga K "Uneven")) = some true),
  fun K => He.eqO (PySem.W.findIn K (.ref (He.ga K "Uneven")) "step") (some none),
  fun K => decide (PySem.W.kitOne K (.ref (He.ga K "Uneven")) (.ref (He.ga K "ByPower")) = some false),
  fun K => decide (PySem.W.kitOne K (.ref (He.ga K "Uneven")) (.ref (He.ga K "Between")) = some false),
  fun K => decide (PySem.W.kitOne K (.ref (He.ga K "Uneven")) (.type "list") = some false),
  fun K => decide (PySem.W.kitOne K (.ref (He.ga K "Uneven")) (.type "tuple") = some false),
  fun K => decide (PySem.W.kitOne K (.ref (He.ga K "Uneven")) (.type "int") = some false),
  fun K => decide (PySem.W.kitOne K (.ref (He.ga K "Uneven")) (.type "bool") = some false),
  fun K => PySem.W.makesIn K (He.ga K "Whole"),
  fun K => decide (PySem.W.findIn K (.ref (He.ga K "Whole")) "__init__" = some (some (.ref (He.ma K (He.ga K "Whole") "__init__")))),
  fun K => PySem.W.isFn K (.ref (He.ma K (He.ga K "Whole") "__init__")),
  fun K => PySem.W.keepIn K (.ref (He.ga K "Whole")),
  fun K => PySem.W.plainGet K (He.ga K "Whole") Str.empty,
  fun K => PySem.W.hasDictIn K (He.ga K "Whole"),
  fun K => PySem.W.plainOver K (He.ga K "Whole"),
  fun K => decide (PySem.W.findIn K (.ref (He.ga K "Whole")) "__setattr__" = some (some (.builtin "object.__setattr__"))),
  fun K => PySem.W.plainGet K (He.ga K "Whole") "__class__"]
def fs10 : HHk.Fs := [fun K => decide (PySem.W.findIn K (.ref (He.ga K "Whole")) "__class__" = some (some (.builtin "object.__class__"))),
  fun K => decide (PySem.W.mroIn K (He.ga K "Whole") (.type "object") = some true),
  fun K => PySem.W.readsIn K (He.ga K "Whole") (.type "type"),
  fun K => HHk.getO (PySem.W.findCls K (.ref (He.ga K "Whole")) (.type "type") "__name__") (.builtin "getset_descriptor.__get__") (.builtin "type.__name__") (.ref (He.ga K "Whole")) (.type "type"),
  fun K => HHk.clsB K (He.ga K "Whole") "Whole",
  fun K => He.eqO (PySem.W.findIn K (.ref (He.ga K "Whole")) "word") (some none),
  fun K => He.eqO (PySem.W.findIn K (.ref (He.ga K "Whole")) "parts") (some none),
  fun K => decide (PySem.W.kitOne K (.ref (He.ga K "Whole")) (.ref (He.ga K "Paper")) = some true),
  fun K => decide (PySem.W.ks_superIn K (He.ga K "Whole") (He.ga K "Whole") "__init__" = some (some (.ref (He.ma K (He.ga K "Paper") "__init__")))),
  fun K => decide (PySem.W.typeIn K (.ref (He.ma K (He.ga K "Paper") "__init__")) = some (.type "function")),
  fun K => PySem.W.fnIn K (He.ma K (He.ga K "Paper") "__init__"),
  fun K => decide (PySem.W.mroIn K (He.ga K "Whole") (.ref (He.ga K "Whole")) = some true),
  fun K => He.eqO (PySem.W.findIn K (.ref (He.ga K "Whole")) "number") (some none),
  fun K => decide (PySem.W.kitOne K (.ref (He.ga K "Whole")) (.ref (He.ga K "ByPower")) = some false),
  fun K => decide (PySem.W.kitOne K (.ref (He.ga K "Whole")) (.ref (He.ga K "Between")) = some false),
  fun K => decide (PySem.W.kitOne K (.ref (He.ga K "Whole")) (.type "list") = some false),
  fun K => decide (PySem.W.kitOne K (.ref (He.ga K "Whole")) (.type "tuple") = some false),
  fun K => decide (PySem.W.kitOne K (.ref (He.ga K "Whole")) (.type "int") = some false),
  fun K => decide (PySem.W.kitOne K (.ref (He.ga K "Whole")) (.type "bool") = some false),
  fun K => PySem.W.makesIn K (He.ga K "NoWhole")]
def fs11 : HHk.Fs := [fun K => decide (PySem.W.findIn K (.ref (He.ga K "NoWhole")) "__init__" = some (some (.ref (He.ma K (He.ga K "NoWhole") "__init__")))),
  fun K => PySem.W.isFn K (.ref (He.ma K (He.ga K "NoWhole") "__init__")),
  fun K => PySem.W.keepIn K (.ref (He.ga K "NoWhole")),
  fun K => PySem.W.plainGet K (He.ga K "NoWhole") Str.empty,
  fun K => PySem.W.hasDictIn K (He.ga K "NoWhole"),
  fun K => PySem.W.plainOver K (He.ga K "NoWhole"),
  fun K => decide (PySem.W.findIn K (.ref (He.ga K "NoWhole")) "__setattr__" = some (some (.builtin "object.__setattr__"))),
  fun K => PySem.W.plainGet K (He.ga K "NoWhole") "__class__",
  fun K => decide (PySem.W.findIn K (.ref (He.ga K "NoWhole")) "__class__" = some (some (.builtin "object.__class__"))),
  fun K => decide (PySem.W.mroIn K (He.ga K "NoWhole") (.type "object") = some true),
  fun K => PySem.W.readsIn K (He.ga K "NoWhole") (.type "type"),
  fun K => HHk.getO (PySem.W.findCls K (.ref (He.ga K "NoWhole")) (.type "type") "__name__") (.builtin "getset_descriptor.__get__") (.builtin "type.__name__") (.ref (He.ga K "NoWhole")) (.type "type"),
  fun K => HHk.clsB K (He.ga K "NoWhole") "NoWhole",
  fun K => He.eqO (PySem.W.findIn K (.ref (He.ga K "NoWhole")) "word") (some none),
  fun K => He.eqO (PySem.W.findIn K (.ref (He.ga K "NoWhole")) "parts") (some none),
  fun K => decide (PySem.W.kitOne K (.ref (He.ga K "NoWhole")) (.ref (He.ga K "Paper")) = some true),
  fun K => decide (PySem.W.ks_superIn K (He.ga K "NoWhole") (He.ga K "NoWhole") "__init__" = some (some (.ref (He.ma K (He.ga K "Paper") "__init__")))),
  fun K => decide (PySem.W.typeIn K (.ref (He.ma K (He.ga K "Paper") "__init__")) = some (.type "function")),
  fun K => PySem.W.fnIn K (He.ma K (He.ga K "Paper") "__init__"),
  fun K => decide (PySem.W.mroIn K (He.ga K "NoWhole") (.ref (He.ga K "NoWhole")) = some true)]
def fs12 : HHk.Fs := [fun K => He.eqO (PySem.W.findIn K (.ref (He.ga K "NoWhole")) "low") (some none),
  fun K => decide (PySem.W.kitOne K (.ref (He.ga K "NoWhole")) (.ref (He.ga K "ByPower")) = some false),
  fun K => decide (PySem.W.kitOne K (.ref (He.ga K "NoWhole")) (.ref (He.ga K "Between")) = some false),
  fun K => decide (PySem.W.kitOne K (.ref (He.ga K "NoWhole")) (.type "list") = some false),
  fun K => decide (PySem.W.kitOne K (.ref (He.ga K "NoWhole")) (.type "tuple") = some false),
  fun K => decide (PySem.W.kitOne K (.ref (He.ga K "NoWhole")) (.type "int") = some false),
  fun K => decide (PySem.W.kitOne K (.ref (He.ga K "NoWhole")) (.type "bool") = some false),
  fun K => PySem.W.makesIn K (He.ga K "Paper"),
  fun K => decide (PySem.W.findIn K (.ref (He.ga K "Paper")) "__init__" = some (some (.ref (He.ma K (He.ga K "Paper") "__init__")))),
  fun K => PySem.W.isFn K (.ref (He.ma K (He.ga K "Paper") "__init__")),
  fun K => PySem.W.keepIn K (.ref (He.ga K "Paper")),
  fun K => PySem.W.plainGet K (He.ga K "Paper") Str.empty,
  fun K => PySem.W.hasDictIn K (He.ga K "Paper"),
  fun K => PySem.W.plainOver K (He.ga K "Paper"),
  fun K => decide (PySem.W.findIn K (.ref (He.ga K "Paper")) "__setattr__" = some (some (.builtin "object.__setattr__"))),
  fun K => PySem.W.plainGet K (He.ga K "Paper") "__class__",
  fun K => decide (PySem.W.findIn K (.ref (He.ga K "Paper")) "__class__" = some (some (.builtin "object.__class__"))),
  fun K => decide (PySem.W.mroIn K (He.ga K "Paper") (.type "object") = some true),
  fun K => PySem.W.readsIn K (He.ga K "Paper") (.type "type"),
  fun K => HHk.getO (PySem.W.findCls K (.ref (He.ga K "Paper")) (.type "type") "__name__") (.builtin "getset_descriptor.__get__") (.builtin "type.__name__") (.ref (He.ga K "Paper")) (.type "type")]
def fs13 : HHk.Fs := [fun K => HHk.clsB K (He.ga K "Paper") "Paper",
  fun K => He.eqO (PySem.W.findIn K (.ref (He.ga K "Paper")) "word") (some none),
  fun K => He.eqO (PySem.W.findIn K (.ref (He.ga K "Paper")) "parts") (some none),
  fun K => decide (PySem.W.kitOne K (.ref (He.ga K "Paper")) (.ref (He.ga K "Paper")) = some true),
  fun K => decide (PySem.W.kitOne K (.ref (He.ga K "Paper")) (.ref (He.ga K "ByPower")) = some false),
  fun K => decide (PySem.W.kitOne K (.ref (He.ga K "Paper")) (.ref (He.ga K "Between")) = some false),
  fun K => decide (PySem.W.kitOne K (.ref (He.ga K "Paper")) (.type "list") = some false),
  fun K => decide (PySem.W.kitOne K (.ref (He.ga K "Paper")) (.type "tuple") = some false),
  fun K => decide (PySem.W.kitOne K (.ref (He.ga K "Paper")) (.type "int") = some false),
  fun K => decide (PySem.W.kitOne K (.ref (He.ga K "Paper")) (.type "bool") = some false),
  fun K => PySem.W.makesIn K (He.ga K "Denial"),
  fun K => decide (PySem.W.findIn K (.ref (He.ga K "Denial")) "__init__" = some (some (.ref (He.ma K (He.ga K "Paper") "__init__")))),
  fun K => PySem.W.isFn K (.ref (He.ma K (He.ga K "Paper") "__init__")),
  fun K => PySem.W.keepIn K (.ref (He.ga K "Denial")),
  fun K => PySem.W.plainGet K (He.ga K "Denial") Str.empty,
  fun K => PySem.W.hasDictIn K (He.ga K "Denial"),
  fun K => PySem.W.plainOver K (He.ga K "Denial"),
  fun K => decide (PySem.W.findIn K (.ref (He.ga K "Denial")) "__setattr__" = some (some (.builtin "object.__setattr__"))),
  fun K => PySem.W.plainGet K (He.ga K "Denial") "__class__",
  fun K => decide (PySem.W.findIn K (.ref (He.ga K "Denial")) "__class__" = some (some (.builtin "object.__class__")))]
def fs14 : HHk.Fs := [fun K => decide (PySem.W.mroIn K (He.ga K "Denial") (.type "object") = some true),
  fun K => PySem.W.readsIn K (He.ga K "Denial") (.type "type"),
  fun K => HHk.getO (PySem.W.findCls K (.ref (He.ga K "Denial")) (.type "type") "__name__") (.builtin "getset_descriptor.__get__") (.builtin "type.__name__") (.ref (He.ga K "Denial")) (.type "type"),
  fun K => HHk.clsB K (He.ga K "Denial") "Denial",
  fun K => He.eqO (PySem.W.findIn K (.ref (He.ga K "Denial")) "word") (some none),
  fun K => He.eqO (PySem.W.findIn K (.ref (He.ga K "Denial")) "parts") (some none),
  fun K => decide (PySem.W.kitOne K (.ref (He.ga K "Denial")) (.ref (He.ga K "Paper")) = some true),
  fun K => decide (PySem.W.kitOne K (.ref (He.ga K "Denial")) (.ref (He.ga K "ByPower")) = some false),
  fun K => decide (PySem.W.kitOne K (.ref (He.ga K "Denial")) (.ref (He.ga K "Between")) = some false),
  fun K => decide (PySem.W.kitOne K (.ref (He.ga K "Denial")) (.type "list") = some false),
  fun K => decide (PySem.W.kitOne K (.ref (He.ga K "Denial")) (.type "tuple") = some false),
  fun K => decide (PySem.W.kitOne K (.ref (He.ga K "Denial")) (.type "int") = some false),
  fun K => decide (PySem.W.kitOne K (.ref (He.ga K "Denial")) (.type "bool") = some false),
  fun K => decide (PySem.W.kitOne K (.type "NoneType") (.ref (He.ga K "ByPower")) = some false),
  fun K => decide (PySem.W.kitOne K (.type "NoneType") (.ref (He.ga K "Between")) = some false),
  fun K => decide (PySem.W.kitOne K (.type "bool") (.ref (He.ga K "ByPower")) = some false),
  fun K => decide (PySem.W.kitOne K (.type "bool") (.ref (He.ga K "Between")) = some false),
  fun K => decide (PySem.W.kitOne K (.type "int") (.ref (He.ga K "ByPower")) = some false),
  fun K => decide (PySem.W.kitOne K (.type "int") (.ref (He.ga K "Between")) = some false),
  fun K => decide (PySem.W.kitOne K (.type "str") (.ref (He.ga K "ByPower")) = some false)]
def fs15 : HHk.Fs := [fun K => decide (PySem.W.kitOne K (.type "str") (.ref (He.ga K "Between")) = some false),
  fun K => decide (PySem.W.kitOne K (.type "list") (.ref (He.ga K "ByPower")) = some false),
  fun K => decide (PySem.W.kitOne K (.type "list") (.ref (He.ga K "Between")) = some false),
  fun K => decide (PySem.W.kitOne K (.type "tuple") (.ref (He.ga K "ByPower")) = some false),
  fun K => decide (PySem.W.kitOne K (.type "tuple") (.ref (He.ga K "Between")) = some false),
  fun K => decide (PySem.W.nsIn K mainGlobals "abs" = some none),
  fun K => decide (PySem.W.nsIn K mainGlobals "bool" = some none),
  fun K => decide (PySem.W.nsIn K mainGlobals "int" = some none),
  fun K => decide (PySem.W.nsIn K mainGlobals "isinstance" = some none),
  fun K => decide (PySem.W.nsIn K mainGlobals "len" = some none),
  fun K => decide (PySem.W.nsIn K mainGlobals "list" = some none),
  fun K => decide (PySem.W.nsIn K mainGlobals "range" = some none),
  fun K => decide (PySem.W.nsIn K mainGlobals "set" = some none),
  fun K => decide (PySem.W.nsIn K mainGlobals "sorted" = some none),
  fun K => decide (PySem.W.nsIn K mainGlobals "str" = some none),
  fun K => decide (PySem.W.nsIn K mainGlobals "tuple" = some none),
  fun K => HHk.intGB K "MOST_TOLD" 99,
  fun K => HHk.intGB K "MOST_POWER" 80]
def fs : HHk.Fs := fs0 ++ (fs1 ++ (fs2 ++ (fs3 ++ (fs4 ++ (fs5 ++ (fs6 ++ (fs7 ++ (fs8 ++ (fs9 ++ (fs10 ++ (fs11 ++ (fs12 ++ (fs13 ++ (fs14 ++ (fs15)))))))))))))))
def fn0 : HHk.Fn := [(fun K => (He.ga K "fixed"), some ("fixed", "fixed", defArgs s_fixed, .stmts (defBody s_fixed), defScope s_fixed, mainGlobals, [], true, builtinsNs)),
  (fun K => (He.ma K (He.ga K "Paper") "__init__"), some ("__init__", "Paper.__init__", defArgs s_Paper_init, .stmts (defBody s_Paper_init), defScope s_Paper_init, mainGlobals, [], true, builtinsNs)),
  (fun K => (He.ga K "is_integer"), some ("is_integer", "is_integer", defArgs s_is_integer, .stmts (defBody s_is_integer), defScope s_is_integer, mainGlobals, [], true, builtinsNs)),
  (fun K => (He.ga K "is_within"), some ("is_within", "is_within", defArgs s_is_within, .stmts (defBody s_is_within), defScope s_is_within, mainGlobals, [], true, builtinsNs)),
  (fun K => (He.ma K (He.ga K "Whole") "__init__"), some ("__init__", "Whole.__init__", defArgs s_Whole_init, .stmts (defBody s_Whole_init), defScope s_Whole_init, mainGlobals, ["__class__"], true, builtinsNs)),
  (fun K => (He.ma K (He.ga K "NoWhole") "__init__"), some ("__init__", "NoWhole.__init__", defArgs s_NoWhole_init, .stmts (defBody s_NoWhole_init), defScope s_NoWhole_init, mainGlobals, ["__class__"], true, builtinsNs)),
  (fun K => (He.ga K "need_number"), some ("need_number", "need_number", defArgs s_need_number, .stmts (defBody s_need_number), defScope s_need_number, mainGlobals, [], true, builtinsNs)),
  (fun K => (He.ga K "raised"), some ("raised", "raised", defArgs s_raised, .stmts (defBody s_raised), defScope s_raised, mainGlobals, [], true, builtinsNs)),
  (fun K => (He.ga K "lifted"), some ("lifted", "lifted", defArgs s_lifted, .stmts (defBody s_lifted), defScope s_lifted, mainGlobals, [], true, builtinsNs)),
  (fun K => (He.ga K "sum_at"), some ("sum_at", "sum_at", defArgs s_sum_at, .stmts (defBody s_sum_at), defScope s_sum_at, mainGlobals, [], true, builtinsNs)),
  (fun K => (He.ga K "holds_by"), some ("holds_by", "holds_by", defArgs s_holds_by, .stmts (defBody s_holds_by), defScope s_holds_by, mainGlobals, [], true, builtinsNs)),
  (fun K => (He.ma K (He.ga K "ByPower") "__init__"), some ("__init__", "ByPower.__init__", defArgs s_ByPower_init, .stmts (defBody s_ByPower_init), defScope s_ByPower_init, mainGlobals, ["__class__"], true, builtinsNs)),
  (fun K => (He.ma K (He.ga K "Between") "__init__"), some ("__init__", "Between.__init__", defArgs s_Between_init, .stmts (defBody s_Between_init), defScope s_Between_init, mainGlobals, ["__class__"], true, builtinsNs)),
  (fun K => (He.ga K "need_growing"), some ("need_growing", "need_growing", defArgs s_need_growing, .stmts (defBody s_need_growing), defScope s_need_growing, mainGlobals, [], true, builtinsNs)),
  (fun K => (He.ga K "least_step"), some ("least_step", "least_step", defArgs s_least_step, .stmts (defBody s_least_step), defScope s_least_step, mainGlobals, [], true, builtinsNs)),
  (fun K => (He.ga K "power_of"), some ("power_of", "power_of", defArgs s_power_of, .stmts (defBody s_power_of), defScope s_power_of, mainGlobals, [], true, builtinsNs)),
  (fun K => (He.ma K (He.ga K "Uneven") "__init__"), some ("__init__", "Uneven.__init__", defArgs s_Uneven_init, .stmts (defBody s_Uneven_init), defScope s_Uneven_init, mainGlobals, ["__class__"], true, builtinsNs)),
  (fun K => (He.ga K "is_between"), some ("is_between", "is_between", defArgs s_is_between, .stmts (defBody s_is_between), defScope s_is_between, mainGlobals, [], true, builtinsNs)),
  (fun K => (He.ga K "shows_power"), some ("shows_power", "shows_power", defArgs s_shows_power, .stmts (defBody s_shows_power), defScope s_shows_power, mainGlobals, [], true, builtinsNs)),
  (fun K => (He.ga K "_law_hat"), some ("_law_hat", "_law_hat", defArgs s__law_hat, .stmts (defBody s__law_hat), defScope s__law_hat, mainGlobals, [], true, builtinsNs))]
def fn1 : HHk.Fn := [(fun K => (He.ga K "_law_lot"), some ("_law_lot", "_law_lot", defArgs s__law_lot, .stmts (defBody s__law_lot), defScope s__law_lot, mainGlobals, [], true, builtinsNs)),
  (fun K => (He.ga K "_law_one"), some ("_law_one", "_law_one", defArgs s__law_one, .stmts (defBody s__law_one), defScope s__law_one, mainGlobals, [], true, builtinsNs)),
  (fun K => (He.ga K "_law_any"), some ("_law_any", "_law_any", defArgs s__law_any, .stmts (defBody s__law_any), defScope s__law_any, mainGlobals, [], true, builtinsNs)),
  (fun K => (He.ga K "_law_grows"), some ("_law_grows", "_law_grows", defArgs s__law_grows, .stmts (defBody s__law_grows), defScope s__law_grows, mainGlobals, [], true, builtinsNs)),
  (fun K => (He.ga K "_law_planted"), some ("_law_planted", "_law_planted", defArgs s__law_planted, .stmts (defBody s__law_planted), defScope s__law_planted, mainGlobals, [], true, builtinsNs)),
  (fun K => (He.ga K "_law_four"), some ("_law_four", "_law_four", defArgs s__law_four, .stmts (defBody s__law_four), defScope s__law_four, mainGlobals, [], true, builtinsNs)),
  (fun K => (He.ga K "_law_raised"), some ("_law_raised", "_law_raised", defArgs s__law_raised, .stmts (defBody s__law_raised), defScope s__law_raised, mainGlobals, [], true, builtinsNs)),
  (fun K => (He.ga K "_law_sum"), some ("_law_sum", "_law_sum", defArgs s__law_sum, .stmts (defBody s__law_sum), defScope s__law_sum, mainGlobals, [], true, builtinsNs)),
  (fun K => (He.ga K "_law_is_by"), some ("_law_is_by", "_law_is_by", defArgs s__law_is_by, .stmts (defBody s__law_is_by), defScope s__law_is_by, mainGlobals, [], true, builtinsNs)),
  (fun K => (He.ga K "_law_is_whole"), some ("_law_is_whole", "_law_is_whole", defArgs s__law_is_whole, .stmts (defBody s__law_is_whole), defScope s__law_is_whole, mainGlobals, [], true, builtinsNs)),
  (fun K => (He.ga K "_law_lies_between"), some ("_law_lies_between", "_law_lies_between", defArgs s__law_lies_between, .stmts (defBody s__law_lies_between), defScope s__law_lies_between, mainGlobals, [], true, builtinsNs)),
  (fun K => (He.ga K "_law_is_power"), some ("_law_is_power", "_law_is_power", defArgs s__law_is_power, .stmts (defBody s__law_is_power), defScope s__law_is_power, mainGlobals, [], true, builtinsNs)),
  (fun K => (He.ga K "_law_values"), some ("_law_values", "_law_values", defArgs s__law_values, .stmts (defBody s__law_values), defScope s__law_values, mainGlobals, [], true, builtinsNs)),
  (fun K => (He.ga K "law"), some ("law", "law", defArgs s_law, .stmts (defBody s_law), defScope s_law, mainGlobals, [], true, builtinsNs))]
def fn : HHk.Fn := fn0 ++ (fn1)
abbrev RR : PySem.W.OpenRow := PySem.W.OpenLaw.row PySem.Challenge.rw_fourthlike_k20_papers_on_powers_bent
abbrev hk : PySem.W.Hook := HHk.hook 5 fs fn
def ob (s : PySem.W.SharedT) : HHk.Al := HHk.obsG 5 fs fn (HandSHeadRun.getT s)
theorem ob_eq (s : PySem.W.SharedT) : ob s = hk.obs s.abs := HHk.obsG_eq (HandSHeadRun.getT_eq s)
set_option maxHeartbeats 0 in
theorem run (w : World) : HandSHeadRun.RunEq RR (PySem.W.view RR.prog [46]) hk ob 9000 names w := by
  intro os
  kernel_rfl
end D20
/-! step lemmas: each opens one word of a reading -/
namespace HX
open PySem PySem.Spec PyProof.Rows L2

/-! ### rules for any kind of values -/
def CMulU (i j : Int) : Prop := IntMulOk i j
theorem CMulU.l {i j : Int} (h : -(2 ^ 64) < i ∧ i < 2 ^ 64) : CMulU i j := L2.CMul.ok (.inl h)
theorem CMulU.r {i j : Int} (h : -(2 ^ 64) < j ∧ j < 2 ^ 64) : CMulU i j := L2.CMul.ok (.inr h)
theorem CMulU.w {i j : Int} (h : i.natAbs.log2 + j.natAbs.log2 < 1000000) : CMulU i j := L2.CMulW.ok h
section
variable {X : Cx}
theorem op_mulU : OpR X (binaryOp .Mult) (rI CMulU fun i j => .int (i * j)) := opI fun _ _ _ _ _ _ _ hc q => mul_int q hc
abbrev op_fdivU : OpR X (binaryOp .FloorDiv) (rI CDiv fun i j => .int (i / j)) := op_fdiv
def rMod : R2 := rI (fun _ j => 0 < j) fun i j => .int (i % j)
theorem op_modU : OpR X (binaryOp .Mod) rMod := op_mod
def rAddS : R2 := fun x y H Q => ∃ i j, x = .str i ∧ y = .str j ∧ i.length + j.length ≤ sizeLine ∧ Q (.str (i ++ j)) H
def rAddU (K : PySem.W.Frag) : R2 := fun x y H Q => rI0 (fun i j => .int (i + j)) x y H Q ∨ rAddS x y H Q ∨ rCat x y H Q ∨ rCatA K x y H Q
theorem op_addU : OpR X (binaryOp .Add) (rAddU X.K) := op_add.or (OpR.or (r := rAddS) op_add_str (op_cat.or op_catA))
def rEqU (K : PySem.W.Frag) : R2 := fun x y H Q => rEq x y H Q ∨ rEqD K x y H Q
def rNeU (K : PySem.W.Frag) : R2 := fun x y H Q => rNe x y H Q ∨ rNeD K x y H Q
theorem op_eqU (hu : X.A.units + 64 < cLine) : OpR X (compareOp .Eq) (rEqU X.K) := op_eq.or (op_eqD hu)
theorem op_neU (hu : X.A.units + 64 < cLine) : OpR X (compareOp .NotEq) (rNeU X.K) := op_ne.or (op_neD hu)
def rLenS (K : PySem.W.Frag) : List V → Hp → VK → Prop := fun xs H Q => ∃ p ys, xs = [.ref p] ∧ (SqL K H p ys ∨ SqT K H p ys) ∧ Q (.int ys.length) H
def rLenT : List V → Hp → VK → Prop := fun xs H Q => ∃ z, xs = [.str z] ∧ z.length ≤ sizeLine ∧ Q (.int z.length) H
def rLenU (K : PySem.W.Frag) : List V → Hp → VK → Prop := fun xs H Q => rLenS K xs H Q ∨ rLenT xs H Q
theorem call_lenU : CallR X (.builtin "len") (rLenU X.K) := CallR.or (r := rLenS X.K) call_len_seq (r' := rLenT) call_len_str
def rSlU (K : PySem.W.Frag) : V → Option Int → Option Int → Hp → VK → Prop := fun x lo hi H Q => rSlL K x lo hi H Q ∨ rSlA K x lo hi H Q ∨ rSlS x lo hi H Q
theorem sl_U : SlR X (rSlU X.K) := sl_list.or (sl_tupA.or sl_str)
def rInSg : R2 := fun x y H Q => ∃ (c : Nat) (z : Str), x = .str ⟨#[c]⟩ ∧ y = .str z ∧ Q (.bl (decide (c ∈ z.cps.toList))) H
def rNiSg : R2 := fun x y H Q => ∃ (c : Nat) (z : Str), x = .str ⟨#[c]⟩ ∧ y = .str z ∧ Q (.bl (!decide (c ∈ z.cps.toList))) H
def rInU (K : PySem.W.Frag) : R2 := fun x y H Q => rIn K false x y H Q ∨ rInSg x y H Q
def rNiU (K : PySem.W.Frag) : R2 := fun x y H Q => rIn K true x y H Q ∨ rNiSg x y H Q
theorem op_inU : OpR X (compareOp .In) (rInU X.K) := OpR.or op_in_seq (r' := rInSg) op_in_sign
theorem op_notInU : OpR X (compareOp .NotIn) (rNiU X.K) := OpR.or op_notIn_seq (r' := rNiSg) op_notIn_sign
end

/-! ### the same, the written part named (a comprehension's block has the same) -/
section
variable {X : Cx} {K : PySem.W.Frag}
theorem op_addK (hK : X.K = K := by rfl) : OpR X (binaryOp .Add) (rAddU K) := by cases hK; exact op_addU
theorem op_eqK (hu : X.A.units + 64 < cLine) (hK : X.K = K := by rfl) : OpR X (compareOp .Eq) (rEqU K) := by cases hK; exact op_eqU hu
theorem op_neK (hu : X.A.units + 64 < cLine) (hK : X.K = K := by rfl) : OpR X (compareOp .NotEq) (rNeU K) := by cases hK; exact op_neU hu
theorem call_lenK (hK : X.K = K := by rfl) : CallR X (.builtin "len") (rLenU K) := by cases hK; exact call_lenU
theorem sl_K (hK : X.K = K := by rfl) : SlR X (rSlU K) := by cases hK; exact sl_U
theorem op_inK (hK : X.K = K := by rfl) : OpR X (compareOp .In) (rInU K) := by cases hK; exact op_inU
theorem op_notInK (hK : X.K = K := by rfl) : OpR X (compareOp .NotIn) (rNiU K) := by cases hK; exact op_notInU
theorem ix_K (hK : X.K = K := by rfl) : IxR X (rIx K) := by cases hK; exact ix_seq
theorem call_isiK' (hK : X.K = K := by rfl) : CallR X (.builtin "isinstance") (rIsi K) := by cases hK; exact call_isi
def rListOf (K : PySem.W.Frag) : List V → Hp → VK → Prop := fun xs H Q => ∃ p ys, xs = [.ref p] ∧ (SqL K H p ys ∨ SqT K H p ys) ∧ ∀ l, H l = none → Q (.ref l) (upd H l (.lst ys))
theorem call_listK (hK : X.K = K := by rfl) : CallR X (.type "list") (rListOf K) := by cases hK; exact call_list_of
def rTupleOf (K : PySem.W.Frag) : List V → Hp → VK → Prop := fun xs H Q => ∃ p ys, xs = [.ref p] ∧ ((SqL K H p ys ∧ ∀ l, H l = none → Q (.ref l) (upd H l (.tup ys))) ∨ (SqT K H p ys ∧ Q (.ref p) H))
theorem call_tupleK (hK : X.K = K := by rfl) : CallR X (.type "tuple") (rTupleOf K) := by cases hK; exact call_tuple_of
theorem cr_sumK (hc : X.calm = true) (hK : X.K = K := by rfl) : CallR X (.builtin "sum") (rSum K) := by cases hK; exact cr_sum hc
theorem cr_maxK (hc : X.calm = true) (hK : X.K = K := by rfl) : CallR X (.builtin "max") (rMax K) := by cases hK; exact cr_max hc
theorem cr_minK' (hc : X.calm = true) (hK : X.K = K := by rfl) : CallR X (.builtin "min") (rMin K) := by cases hK; exact cr_min hc
theorem cr_anyK (hc : X.calm = true) (hK : X.K = K := by rfl) : CallR X (.builtin "any") (rAny K) := by cases hK; exact cr_any hc
theorem cr_allK (hc : X.calm = true) (hK : X.K = K := by rfl) : CallR X (.builtin "all") (rAll K) := by cases hK; exact cr_all hc
theorem pi_listK {tg l : Expr} {tl : TE} (hl : PE X l tl) (hK : X.K = K := by rfl) : PI X tg l (iList K tl) := by cases hK; exact pi_list hl
theorem pi_tupK {tg l : Expr} {tl : TE} (hl : PE X l tl) (hK : X.K = K := by rfl) : PI X tg l (iTup K tl) := by cases hK; exact pi_tup hl
theorem pg_tupK {es : List Expr} {k : Nat} {pos : Pos} {t : TGs} (n : Nat) (hc : X.calm = true) (h : PGs X es t)
    (hn : (assignEach es X.env).length = n := by rfl) (hst : (assignEach es X.env).findIdx? (·.1) = none := by rfl) (hK : X.K = K := by rfl) : PG X (.Tuple es k pos) (gTup K n t) := by cases hK; exact pg_tup hc h hn hst
theorem pg_unlK {es : List Expr} {k : Nat} {pos : Pos} {t : TGs} (n : Nat) (hc : X.calm = true) (h : PGs X es t)
    (hn : (assignEach es X.env).length = n := by rfl) (hst : (assignEach es X.env).findIdx? (·.1) = none := by rfl) (hK : X.K = K := by rfl) : PG X (.Tuple es k pos) (gUnl K n t) := by cases hK; exact pg_unl hc h hn hst
end

theorem start_ {t : TS} {D : Ends} {N : List Str} {vs : List V} {σ : L2.St} {H : Hp} (e : start N vs = σ) (h : t D σ H) : t D (start N vs) H := by rw [e]; exact h
/-! ### statements -/
section
variable {σ : L2.St} {H : Hp} {nx bk ct : L2.St → Hp → Prop} {rt : VK} {t u : TS} {te : TE} {g : TG} {c : TT}
theorem seq_ (h : t ⟨u ⟨nx, rt, bk, ct⟩, rt, bk, ct⟩ σ H) : tSeq t u ⟨nx, rt, bk, ct⟩ σ H := h
theorem next_ (h : nx σ H) : tNext ⟨nx, rt, bk, ct⟩ σ H := h
theorem brk_ (h : bk σ H) : tBreak ⟨nx, rt, bk, ct⟩ σ H := h
theorem cont_ (h : ct σ H) : tCont ⟨nx, rt, bk, ct⟩ σ H := h
theorem asg_ (h : te σ H fun x H1 => g x σ H1 nx) : tAsg te g ⟨nx, rt, bk, ct⟩ σ H := h
theorem drop_ (h : te σ H fun _ H1 => nx σ H1) : tDrop te ⟨nx, rt, bk, ct⟩ σ H := h
theorem ret_ (h : te σ H rt) : tRet te ⟨nx, rt, bk, ct⟩ σ H := h
theorem retN_ (h : rt .non H) : tRetN ⟨nx, rt, bk, ct⟩ σ H := h
theorem ifS_ (h : c σ H fun b H1 => if b = true then t ⟨nx, rt, bk, ct⟩ σ H1 else u ⟨nx, rt, bk, ct⟩ σ H1) : tIfS c t u ⟨nx, rt, bk, ct⟩ σ H := h
theorem par_ {i j : Nat} {ta : TA} (h : ta σ H fun vs H1 => ∃ v w, vs = [v, w] ∧ gName i v σ H1 fun σ H => gName j w σ H nx) : tPar i j ta ⟨nx, rt, bk, ct⟩ σ H := h
theorem par3_ {i j l : Nat} {ta : TA} (h : ta σ H fun vs H1 => ∃ u v w, vs = [u, v, w] ∧ gName i u σ H1 fun σ H => gName j v σ H fun σ H => gName l w σ H nx) : tPar3 i j l ta ⟨nx, rt, bk, ct⟩ σ H := h
theorem e2_ {v w : V} {P : V → V → Prop} (h : P v w) : ∃ a b, [v, w] = [a, b] ∧ P a b := ⟨v, w, rfl, h⟩
theorem e3_ {v w z : V} {P : V → V → V → Prop} (h : P v w z) : ∃ a b c, [v, w, z] = [a, b, c] ∧ P a b c := ⟨v, w, z, rfl, h⟩
end
theorem cut_ {σ : L2.St} {H : Hp} {nx bk ct : L2.St → Hp → Prop} {rt : VK} {t u : TS} (Mid : L2.St → Hp → Prop) (h : t ⟨Mid, rt, bk, ct⟩ σ H) (h2 : ∀ σ' H', Mid σ' H' → u ⟨nx, rt, bk, ct⟩ σ' H') : Evl.tCut t u ⟨nx, rt, bk, ct⟩ σ H := ⟨Mid, h, h2⟩
/-! ### targets -/
section
variable {σ : L2.St} {H : Hp} {R : L2.St → Hp → Prop} {v : V} {i : Nat} {a : Option V} {t : TG} {ts : TGs}
theorem gn0_ (h : R (some v :: σ) H) : gName 0 v (a :: σ) H R := h
theorem gnS_ (h : gName i v σ H fun σ' H' => R (a :: σ') H') : gName (i + 1) v (a :: σ) H R := h
theorem gcons_ {vs : List V} (h : t v σ H fun σ' H' => ts vs σ' H' R) : gCons t ts (v :: vs) σ H R := ⟨v, vs, rfl, h⟩
theorem gnil_ (h : R σ H) : gNil [] σ H R := ⟨rfl, h⟩
theorem gtup_ {K : PySem.W.Frag} {n : Nat} {p : Addr} {xs : List V} (hT : SqT K H p xs) (hn : xs.length = n) (h : ts xs σ H R) : gTup K n ts (.ref p) σ H R := ⟨p, xs, rfl, hT, hn, h⟩
theorem gunl_ {K : PySem.W.Frag} {n : Nat} {p : Addr} {xs : List V} (hT : SqL K H p xs) (hn : xs.length = n) (h : ts xs σ H R) : gUnl K n ts (.ref p) σ H R := ⟨p, xs, rfl, hT, hn, h⟩
theorem gsub_ {to ti : TE} {s : TSet} (h : to σ H fun o H1 => ti σ H1 fun i H2 => s o i v H2 fun H3 => R σ H3) : gSub to ti s v σ H R := h
theorem setL_ {p : Addr} {xs : List V} {k : Int} {j : Nat} {P : Hp → Prop} (hp : H p = some (.lst xs)) (hj : ixN xs.length k = some j) (h : P (upd H p (.lst (xs.set j v)))) : rSetL (.ref p) (.int k) v H P := ⟨p, xs, k, j, rfl, rfl, hp, hj, h⟩
end
/-! ### expressions -/
section
variable {σ : L2.St} {H : Hp} {Q : VK} {QA : List V → Hp → Prop} {QB : Bool → Hp → Prop} {v x y : V} {i : Nat} {a : Option V} {ta tb te : TE} {tr : TA} {t u : TT} {r : R2} {K : PySem.W.Frag}
theorem var0_ (h : Q v H) : tVar 0 (some v :: σ) H Q := ⟨v, rfl, h⟩
theorem varS_ (h : tVar i σ H Q) : tVar (i + 1) (a :: σ) H Q := h
theorem c_ (h : Q v H) : tC v σ H Q := h
theorem op_ (h : ta σ H fun x H1 => tb σ H1 fun y H2 => r x y H2 Q) : tOp r ta tb σ H Q := h
theorem un_ {f : V → Hp → VK → Prop} (h : ta σ H fun x H1 => f x H1 Q) : tUn f ta σ H Q := h
theorem nil_ (h : QA [] H) : tNil σ H QA := h
theorem cons_ (h : ta σ H fun x H1 => tr σ H1 fun xs H2 => QA (x :: xs) H2) : tCons ta tr σ H QA := h
theorem tup_ (h : tr σ H fun xs H1 => xs.length ≤ sizeLine ∧ ∀ p, H1 p = none → Q (.ref p) (upd H1 p (.tup xs))) : tTup tr σ H Q := h
theorem lst_ (h : tr σ H fun xs H1 => xs.length ≤ sizeLine ∧ ∀ p, H1 p = none → Q (.ref p) (upd H1 p (.lst xs))) : tLst tr σ H Q := h
theorem call_ {sp : Sp} {dvs : List V} {E : XK} (h : tr σ H fun vs H1 => sp (vs ++ dvs) H1 Q E) : tCall sp dvs E tr σ H Q := h
theorem cb_ {f : List V → Hp → VK → Prop} (h : tr σ H fun vs H1 => f vs H1 Q) : tCB f tr σ H Q := h
theorem i0_ {g : Int → Int → V} {i j : Int} (h : Q (g i j) H) : rI0 g (.int i) (.int j) H Q := ⟨i, j, rfl, rfl, h⟩
theorem i_ {C : Int → Int → Prop} {g : Int → Int → V} {i j : Int} (hc : C i j) (h : Q (g i j) H) : rI C g (.int i) (.int j) H Q := ⟨i, j, rfl, rfl, hc, h⟩
theorem u_ {g : Int → V} {i : Int} (h : Q (g i) H) : rU g (.int i) H Q := ⟨i, rfl, h⟩
/-- a remainder: a letter and what is known of it -/
theorem mod_ {i j : Int} (hj : 0 < j) (h : ∀ z, i % j = z → 0 ≤ z → z < j → Q (.int z) H) : rMod (.int i) (.int j) H Q := ⟨i, j, rfl, rfl, hj, h _ rfl (Int.emod_nonneg i (by omega)) (Int.emod_lt_of_pos i hj)⟩
theorem add_int_ {i j : Int} (h : Q (.int (i + j)) H) : rAddU K (.int i) (.int j) H Q := .inl ⟨i, j, rfl, rfl, h⟩
theorem add_str_ {i j : Str} (hl : i.length + j.length ≤ sizeLine) (h : Q (.str (i ++ j)) H) : rAddU K (.str i) (.str j) H Q := .inr (.inl ⟨i, j, rfl, rfl, hl, h⟩)
theorem add_lst_ {l b : Addr} {xs zs : List V} (hl : H l = some (.lst xs)) (hb : H b = some (.lst zs)) (hz : xs.length + zs.length ≤ sizeLine) (h : ∀ p, H p = none → Q (.ref p) (upd H p (.lst (xs ++ zs)))) : rAddU K (.ref l) (.ref b) H Q := .inr (.inr (.inl ⟨l, b, xs, zs, rfl, rfl, hl, hb, hz, h⟩))
theorem eq_int_ {i j : Int} (h : Q (.bl (decide (i = j))) H) : rEqU K (.int i) (.int j) H Q := .inl ⟨rfl, by
  have e : decide (V.int i = V.int j) = decide (i = j) := decide_eq_decide.mpr ⟨V.int.inj, congrArg V.int⟩
  rw [e]; exact h⟩
theorem ne_int_ {i j : Int} (h : Q (.bl (!decide (i = j))) H) : rNeU K (.int i) (.int j) H Q := .inl ⟨rfl, by
  have e : decide (V.int i = V.int j) = decide (i = j) := decide_eq_decide.mpr ⟨V.int.inj, congrArg V.int⟩
  rw [e]; exact h⟩
theorem eq_bl_ {i j : Bool} (h : Q (.bl (decide (i = j))) H) : rEqU K (.bl i) (.bl j) H Q := .inl ⟨rfl, by
  have e : decide (V.bl i = V.bl j) = decide (i = j) := decide_eq_decide.mpr ⟨V.bl.inj, congrArg V.bl⟩
  rw [e]; exact h⟩
theorem ne_bl_ {i j : Bool} (h : Q (.bl (!decide (i = j))) H) : rNeU K (.bl i) (.bl j) H Q := .inl ⟨rfl, by
  have e : decide (V.bl i = V.bl j) = decide (i = j) := decide_eq_decide.mpr ⟨V.bl.inj, congrArg V.bl⟩
  rw [e]; exact h⟩
theorem eq_str_ {i j : Str} (h : Q (.bl (decide (i = j))) H) : rEqU K (.str i) (.str j) H Q := .inl ⟨rfl, by
  have e : decide (V.str i = V.str j) = decide (i = j) := decide_eq_decide.mpr ⟨V.str.inj, congrArg V.str⟩
  rw [e]; exact h⟩
theorem ne_str_ {i j : Str} (h : Q (.bl (!decide (i = j))) H) : rNeU K (.str i) (.str j) H Q := .inl ⟨rfl, by
  have e : decide (V.str i = V.str j) = decide (i = j) := decide_eq_decide.mpr ⟨V.str.inj, congrArg V.str⟩
  rw [e]; exact h⟩
theorem len_l_ {p : Addr} {ys : List V} (hs : SqL K H p ys) (h : Q (.int ys.length) H) : rLenU K [.ref p] H Q := .inl ⟨p, ys, rfl, .inl hs, h⟩
theorem len_t_ {p : Addr} {ys : List V} (hs : SqT K H p ys) (h : Q (.int ys.length) H) : rLenU K [.ref p] H Q := .inl ⟨p, ys, rfl, .inr hs, h⟩
theorem len_s_ {z : Str} (hz : z.length ≤ sizeLine) (h : Q (.int z.length) H) : rLenU K [.str z] H Q := .inr ⟨z, rfl, hz, h⟩
theorem ixL_ {p : Addr} {xs : List V} {i : Int} (hs : SqL K H p xs) (hv : atI xs i = some v) (h : Q v H) : rIx K (.ref p) (.int i) H Q := .inl ⟨p, xs, i, v, rfl, rfl, hs, hv, h⟩
theorem ixT_ {p : Addr} {xs : List V} {i : Int} (hs : SqT K H p xs) (hv : atI xs i = some v) (h : Q v H) : rIx K (.ref p) (.int i) H Q := .inr (.inl ⟨p, xs, i, v, rfl, rfl, hs, hv, h⟩)
theorem slL_ {p : Addr} {xs : List V} {lo hi : Option Int} (hs : SqL K H p xs) (h : ∀ q, H q = none → Q (.ref q) (upd H q (.lst (cutV xs lo hi)))) : rSlU K (.ref p) lo hi H Q := .inl ⟨p, xs, rfl, hs, h⟩
theorem sl_ {f : V → Option Int → Option Int → Hp → VK → Prop} {tl th : TO} (h : te σ H fun x H1 => tl σ H1 fun l H2 => th σ H2 fun u H3 => f x l u H3 Q) : tSl f te tl th σ H Q := h
theorem nopart_ {QO : Option Int → Hp → Prop} (h : QO none H) : tNoPart σ H QO := h
theorem part_ {QO : Option Int → Hp → Prop} (h : te σ H fun x H1 => ∃ i, x = .int i ∧ QO (some i) H1) : tPart te σ H QO := h
theorem eint_ {i : Int} {P : Int → Prop} (h : P i) : ∃ j, V.int i = .int j ∧ P j := ⟨i, rfl, h⟩
theorem eref_ {i : Addr} {P : Addr → Prop} (h : P i) : ∃ j, V.ref i = .ref j ∧ P j := ⟨i, rfl, h⟩
theorem ebl_ {i : Bool} {P : Bool → Prop} (h : P i) : ∃ j, V.bl i = .bl j ∧ P j := ⟨i, rfl, h⟩
/-! tests -/
theorem test_ (h : te σ H fun x H' => ∃ k, x = .bl k ∧ QB k H') : tTest te σ H QB := h
theorem b_ (h : te σ H fun x H' => ∃ k, x = .bl k ∧ QB k H') : tB te σ H QB := h
theorem and_ (h : t σ H fun c H1 => if c = true then u σ H1 QB else QB false H1) : tAnd t u σ H QB := h
theorem or_ (h : t σ H fun c H1 => if c = true then QB true H1 else u σ H1 QB) : tOr t u σ H QB := h
theorem not_ (h : t σ H fun c H1 => QB (!c) H1) : tNot t σ H QB := h
theorem andV_ (h : ta σ H fun x H1 => ∃ c, x = .bl c ∧ if c = true then tb σ H1 Q else Q (.bl false) H1) : tAndV ta tb σ H Q := h
theorem orV_ (h : ta σ H fun x H1 => ∃ c, x = .bl c ∧ if c = true then Q (.bl true) H1 else tb σ H1 Q) : tOrV ta tb σ H Q := h
theorem notV_ (h : ta σ H fun x H1 => ∃ c, x = .bl c ∧ Q (.bl (!c)) H1) : tNotV ta σ H Q := h
theorem if_ (h : t σ H fun c H1 => if c = true then ta σ H1 Q else tb σ H1 Q) : tIf t ta tb σ H Q := h
theorem isN_ {x : V} (h : Q (.bl (decide (x = .non))) H) : (fun (x y : V) H (Q : VK) => y = .non ∧ Q (.bl (decide (x = .non))) H) x .non H Q := ⟨rfl, h⟩
theorem enon_ {P : Prop} (h : P) : V.non = .non ∧ P := ⟨rfl, h⟩
theorem yes_ {QT : Bool → Hp → Prop} (h : QT true H) : tYes σ H QT := h
/-! iterations -/
theorem itup_ {R : It → Hp → Prop} (h : te σ H fun x H1 => ∃ a, x = .ref a ∧ (∃ xs, SqT K H1 a xs) ∧ R (Itt K a) H1) : iTup K te σ H R := h
theorem ilst_ {R : It → Hp → Prop} (h : te σ H fun x H1 => ∃ a, x = .ref a ∧ (∃ xs, SqL K H1 a xs) ∧ R (Itl K a) H1) : iList K te σ H R := h
theorem irng1_ {R : It → Hp → Prop} (h : tr σ H fun vs H1 => ∃ j : Int, vs = [.int j] ∧ -(2 ^ 62) ≤ j ∧ j < 2 ^ 62 ∧ R (Itr 0 j.toNat) H1) : iRng1 tr σ H R := h
theorem irng2_ {R : It → Hp → Prop} (h : tr σ H fun vs H1 => ∃ i j : Int, vs = [.int i, .int j] ∧ (-(2 ^ 62) ≤ i ∧ i < 2 ^ 62 ∧ -(2 ^ 62) ≤ j ∧ j < 2 ^ 62) ∧ R (Itr i (j - i).toNat) H1) : iRng2 tr σ H R := h
theorem erng1_ {R : It → Hp → Prop} {i : Int} (hi : -(2 ^ 62) ≤ i ∧ i < 2 ^ 62) (h : R (Itr 0 i.toNat) H) : ∃ j : Int, [V.int i] = [.int j] ∧ -(2 ^ 62) ≤ j ∧ j < 2 ^ 62 ∧ R (Itr 0 j.toNat) H := ⟨i, rfl, hi.1, hi.2, h⟩
theorem etup_ {R : It → Hp → Prop} {p : Addr} {xs : List V} (hT : SqT K H p xs) (h : R (Itt K p) H) : ∃ a, V.ref p = .ref a ∧ (∃ xs, SqT K H a xs) ∧ R (Itt K a) H := ⟨p, rfl, ⟨xs, hT⟩, h⟩
theorem elst_ {R : It → Hp → Prop} {p : Addr} {xs : List V} (hT : SqL K H p xs) (h : R (Itl K p) H) : ∃ a, V.ref p = .ref a ∧ (∃ xs, SqL K H a xs) ∧ R (Itl K a) H := ⟨p, rfl, ⟨xs, hT⟩, h⟩
end
theorem iteT_ {b : Bool} {A B : Prop} (e : b = true) (h : A) : if b = true then A else B := by rw [if_pos e]; exact h
theorem iteF_ {b : Bool} {A B : Prop} (e : b = false) (h : B) : if b = true then A else B := by rw [e]; exact h
theorem ited_ {c A B : Prop} [Decidable c] (h1 : c → A) (h2 : ¬ c → B) : if decide c = true then A else B := by
  by_cases h : c
  · rw [if_pos (decide_eq_true h)]; exact h1 h
  · rw [if_neg (by rw [decide_eq_false h]; exact Bool.false_ne_true)]; exact h2 h
theorem itend_ {c A B : Prop} [Decidable c] (h1 : ¬ c → A) (h2 : c → B) : if (!decide c) = true then A else B := by
  by_cases h : c
  · rw [decide_eq_true h]; exact h2 h
  · rw [decide_eq_false h]; exact h1 h
theorem joinC_ {c : Bool} {x y : V} {σ : L2.St} {H : Hp} {Q : VK} (h : ∀ v, (v = x ∨ v = y) → Q v H) : if c = true then tC x σ H Q else tC y σ H Q := by
  cases c
  · exact h y (.inr rfl)
  · exact h x (.inl rfl)
theorem iteb_ {b : Bool} {A B : Prop} (h1 : b = true → A) (h2 : b = false → B) : if b = true then A else B := by
  cases b
  · exact h2 rfl
  · exact h1 rfl
theorem sz_ {n : Nat} {P : Prop} (h : Nat.ble n 1000 = true) (p : P) : n ≤ sizeLine ∧ P := ⟨Nat.le_of_lt (small1000 (Nat.le_of_ble_eq_true h)), p⟩
theorem size_ {n : Nat} (h : n ≤ 100000) : n ≤ sizeLine := Nat.le_trans h (by decide)
theorem isi_ {K : PySem.W.Frag} {x c : V} {t u : Value} {b : Bool} {H : Hp} {Q : VK} (k : ClsV c u) (ty : TyX K H x t) (e : PySem.W.kitOne K t u = some b) (q : Q (.bl b) H) : rIsi K [x, c] H Q := ⟨x, c, t, u, b, rfl, k, ty, e, q⟩

/-! ### a loop over a written tuple, turn by turn -/
def UnrT (K : PySem.W.Frag) (a : Addr) (all : List V) (g : TG) (tb : TS) (nx : L2.St → Hp → Prop) (rt : VK) : List V → L2.St → Hp → Prop
  | [], σ, H => SqT K H a all ∧ nx σ H
  | x :: xs, σ, H => SqT K H a all ∧ g x σ H fun σ2 H2 => tb ⟨UnrT K a all g tb nx rt xs, rt, nx, UnrT K a all g tb nx rt xs⟩ σ2 H2

theorem isi_int_int {K : PySem.W.Frag} {i : Int} {H : Hp} {Q : VK} (q : Q (.bl true) H) : rIsi K [.int i, .ty "int"] H Q := isi_ (.ty _) (.base (.int _)) (kit_ty (by decide +kernel)) q
theorem isi_int_bool {K : PySem.W.Frag} {i : Int} {H : Hp} {Q : VK} (q : Q (.bl false) H) : rIsi K [.int i, .ty "bool"] H Q := isi_ (.ty _) (.base (.int _)) (kit_ty (by decide +kernel)) q
theorem isi_bl_bool {K : PySem.W.Frag} {i : Bool} {H : Hp} {Q : VK} (q : Q (.bl true) H) : rIsi K [.bl i, .ty "bool"] H Q := isi_ (.ty _) (.base (.bl _)) (kit_ty (by decide +kernel)) q
theorem isi_bl_int {K : PySem.W.Frag} {i : Bool} {H : Hp} {Q : VK} (q : Q (.bl true) H) : rIsi K [.bl i, .ty "int"] H Q := isi_ (.ty _) (.base (.bl _)) (kit_ty (by decide +kernel)) q
def rInt1 : List V → Hp → VK → Prop := fun xs H Q => (∃ i, xs = [.int i] ∧ Q (.int i) H) ∨ ∃ k, xs = [.bl k] ∧ Q (.int (if k then 1 else 0)) H
theorem call_intU {X : Cx} : CallR X (.type "int") rInt1 := call_int1
theorem int_int_ {i : Int} {H : Hp} {Q : VK} (q : Q (.int i) H) : rInt1 [.int i] H Q := .inl ⟨i, rfl, q⟩
theorem int_bl_ {b : Bool} {H : Hp} {Q : VK} (q : Q (.int (if b then 1 else 0)) H) : rInt1 [.bl b] H Q := .inr ⟨b, rfl, q⟩
def rAbs : List V → Hp → VK → Prop := fun xs H Q => ∃ i, xs = [.int i] ∧ Q (.int (if i < 0 then -i else i)) H
theorem call_absU {X : Cx} : CallR X (.builtin "abs") rAbs := call_abs
theorem abs_ {i : Int} {H : Hp} {Q : VK} (q : Q (.int (if i < 0 then -i else i)) H) : rAbs [.int i] H Q := ⟨i, rfl, q⟩
def rMax2 : List V → Hp → VK → Prop := fun xs H Q => ∃ i j, xs = [.int i, .int j] ∧ Q (.int (if j > i then j else i)) H
theorem call_maxU {X : Cx} (hc : X.calm = true) : CallR X (.builtin "max") rMax2 := call_max2 hc
theorem max2_ {i j : Int} {H : Hp} {Q : VK} (q : Q (.int (if j > i then j else i)) H) : rMax2 [.int i, .int j] H Q := ⟨i, j, rfl, q⟩
def rMin2 : List V → Hp → VK → Prop := fun xs H Q => ∃ i j, xs = [.int i, .int j] ∧ Q (.int (if j < i then j else i)) H
theorem call_minU {X : Cx} (hc : X.calm = true) : CallR X (.builtin "min") rMin2 := call_min2 hc
theorem min2_ {i j : Int} {H : Hp} {Q : VK} (q : Q (.int (if j < i then j else i)) H) : rMin2 [.int i, .int j] H Q := ⟨i, j, rfl, q⟩
def rIsN : R2 := fun x y H Q => y = .non ∧ Q (.bl (decide (x = .non))) H
def rNotN : R2 := fun x y H Q => y = .non ∧ Q (.bl (!decide (x = .non))) H
theorem op_isNU {X : Cx} : OpR X (compareOp .Is) rIsN := op_isN
theorem op_notNU {X : Cx} : OpR X (compareOp .IsNot) rNotN := op_notN
theorem isN0_ {H : Hp} {Q : VK} (q : Q (.bl true) H) : rIsN .non .non H Q := ⟨rfl, q⟩
theorem isNi_ {i : Int} {H : Hp} {Q : VK} (q : Q (.bl false) H) : rIsN (.int i) .non H Q := ⟨rfl, q⟩
theorem isNr_ {i : Addr} {H : Hp} {Q : VK} (q : Q (.bl false) H) : rIsN (.ref i) .non H Q := ⟨rfl, q⟩
theorem isNs_ {i : Str} {H : Hp} {Q : VK} (q : Q (.bl false) H) : rIsN (.str i) .non H Q := ⟨rfl, q⟩
theorem notN0_ {H : Hp} {Q : VK} (q : Q (.bl false) H) : rNotN .non .non H Q := ⟨rfl, q⟩
theorem notNi_ {i : Int} {H : Hp} {Q : VK} (q : Q (.bl true) H) : rNotN (.int i) .non H Q := ⟨rfl, q⟩
theorem notNr_ {i : Addr} {H : Hp} {Q : VK} (q : Q (.bl true) H) : rNotN (.ref i) .non H Q := ⟨rfl, q⟩
theorem notNs_ {i : Str} {H : Hp} {Q : VK} (q : Q (.bl true) H) : rNotN (.str i) .non H Q := ⟨rfl, q⟩
theorem e1int_ {i : Int} {P : Int → Prop} (h : P i) : ∃ j, [V.int i] = [.int j] ∧ P j := ⟨i, rfl, h⟩
theorem e2int_ {i j : Int} {P : Int → Int → Prop} (h : P i j) : ∃ a b, [V.int i, V.int j] = [.int a, .int b] ∧ P a b := ⟨i, j, rfl, h⟩

/-! ### comprehensions over a name: P by the turn, what is made so far, the heap -/
section
variable {σ : L2.St} {H1 : Hp} {D : Addr} {Qd : Hp → Prop} {te : TE} {vs : List Nat} {j : Nat} {K : PySem.W.Frag}
/-- what a for's walk asks -/
def ForG (J : It) (g : TG) (tb : TS) (D : Ends) (σ : L2.St) (H1 : Hp) : Prop :=
  ∃ W : Nat → Nat → L2.St → Hp → Prop, (∃ m, W 0 m σ H1) ∧
    ∀ i m σ H, W i m σ H → (J.stop i H ∧ D.nx σ H) ∨
      (J.go i H ∧ ∃ N : L2.St → Hp → Prop, (∀ σ' H', N σ' H' → ∃ m', m' < m ∧ W (i + 1) m' σ' H') ∧
        ∀ x H', J.yld i H x H' → g x σ H' fun σ2 H2 => tb ⟨N, D.rt, D.nx, N⟩ σ2 H2)
theorem for_ {wi : TI} {g : TG} {tb : TS} {D : Ends} {H : Hp} (h : wi σ H fun J H1 => ForG J g tb D σ H1) : tFor wi g tb D σ H := h
/-- what a comprehension's walk asks: W by the turn and a measure -/
def LcG (J : It) (g : TG) (tt : TT) (te : TE) (vs : List Nat) (σ : L2.St) (D : Addr) (H1 : Hp) (Qd : Hp → Prop) : Prop :=
  ∃ W : Nat → Nat → Hp → Prop, (∃ m, W 0 m (upd H1 D (.lst []))) ∧
    ∀ i m H, W i m H → (J.stop i H ∧ Qd H) ∨
      (J.go i H ∧ ∃ Nx : Hp → Prop, (∀ H', Nx H' → ∃ m', m' < m ∧ W (i + 1) m' H') ∧
        ∀ x H', J.yld i H x H' → g x (wipe σ vs) H' fun σ2 H2 =>
          wipe σ2 vs = wipe σ vs ∧ tt σ2 H2 fun b H3 => if b = true
            then te σ2 H3 fun y H4 => ∃ acc, H4 D = some (.lst acc) ∧
              acc.length < sizeLine ∧ Nx (upd H4 D (.lst (acc ++ [y])))
            else Nx H3)
theorem lc_ {wi : TI} {g : TG} {tt : TT} {Q : VK} {H : Hp} (h : wi σ H fun J H1 => ∀ D, H1 D = none → LcG J g tt te vs σ D H1 fun H2 => Q (.ref D) H2) : tLc wi g tt te vs σ H Q := h
def Lw (P : Nat → List V → Hp → Prop) (n : Nat) (D : Addr) (i : Nat) (H : Hp) : Prop := ∃ ys : List V, ys.length = i ∧ i ≤ n ∧ P i ys H ∧ H D = some (.lst ys)
def LcK (P : Nat → List V → Hp → Prop) (n : Nat) (D : Addr) (i : Nat) : VK := fun y H4 => ∃ acc, H4 D = some (.lst acc) ∧ acc.length < sizeLine ∧ Lw P n D (i + 1) (upd H4 D (.lst (acc ++ [y])))
theorem lcK_ {P : Nat → List V → Hp → Prop} {n : Nat} {D : Addr} {i : Nat} {ys : List V} {y : V} {H4 : Hp} (hD : H4 D = some (.lst ys)) (hl : ys.length = i) (hi : i < n) (hn : n ≤ 100000) (h : P (i + 1) (ys ++ [y]) (upd H4 D (.lst (ys ++ [y])))) : LcK P n D i y H4 :=
  ⟨ys, hD, Nat.lt_of_lt_of_le (show ys.length < 100000 by omega) (by decide), ys ++ [y], by rw [List.length_append, hl]; rfl, hi, h, upd_same⟩
theorem lcR {lo : Int} {n : Nat} (P : Nat → List V → Hp → Prop) (hw : ∀ x, wipe ((wipe σ vs).set j (some x)) vs = wipe σ vs) (h0 : P 0 [] (upd H1 D (.lst [])))
    (hs : ∀ i ys H, i < n → ys.length = i → P i ys H → H D = some (.lst ys) → te ((wipe σ vs).set j (some (.int (lo + (i : Int))))) H (LcK P n D i))
    (hd : ∀ ys H, ys.length = n → P n ys H → H D = some (.lst ys) → Qd H) :
    LcG (Itr lo n) (gName j) tYes te vs σ D H1 Qd := by
  refine lc_range (Lw P n D) ⟨[], rfl, Nat.zero_le _, h0, upd_same⟩ (fun i H hi p => ?_) fun H p => ?_
  · obtain ⟨ys, hl, _, hp, hD⟩ := p
    refine ⟨hw _, ?_⟩
    unfold tYes
    dsimp only
    rw [if_pos rfl]
    exact hs i ys H hi hl hp hD
  · obtain ⟨ys, hl, _, hp, hD⟩ := p
    exact hd ys H hl hp hD
theorem lcT {a : Addr} {xs : List V} (P : Nat → List V → Hp → Prop) (hw : ∀ x, wipe ((wipe σ vs).set j (some x)) vs = wipe σ vs) (h0 : P 0 [] (upd H1 D (.lst [])))
    (ht : ∀ i ys H, P i ys H → SqT K H a xs)
    (hs : ∀ i x ys H, xs[i]? = some x → i < xs.length → ys.length = i → P i ys H → H D = some (.lst ys) → te ((wipe σ vs).set j (some x)) H (LcK P xs.length D i))
    (hd : ∀ ys H, ys.length = xs.length → P xs.length ys H → H D = some (.lst ys) → Qd H) :
    LcG (Itt K a) (gName j) tYes te vs σ D H1 Qd := by
  refine lc_tup (xs := xs) (Lw P xs.length D) ⟨[], rfl, Nat.zero_le _, h0, upd_same⟩ (fun i H _ p => ?_) (fun i x H hx p => ?_) fun H p => ?_
  · obtain ⟨ys, _, _, hp, _⟩ := p
    exact ht i ys H hp
  · obtain ⟨ys, hl, _, hp, hD⟩ := p
    refine ⟨hw _, ?_⟩
    unfold tYes
    dsimp only
    rw [if_pos rfl]
    exact hs i x ys H hx (List.getElem?_eq_some_iff.mp hx).1 hl hp hD
  · obtain ⟨ys, hl, _, hp, hD⟩ := p
    exact hd ys H hl hp hD
theorem lcL {a : Addr} {xs : List V} (P : Nat → List V → Hp → Prop) (hw : ∀ x, wipe ((wipe σ vs).set j (some x)) vs = wipe σ vs) (h0 : P 0 [] (upd H1 D (.lst [])))
    (ht : ∀ i ys H, P i ys H → SqL K H a xs)
    (hs : ∀ i x ys H, xs[i]? = some x → i < xs.length → ys.length = i → P i ys H → H D = some (.lst ys) → te ((wipe σ vs).set j (some x)) H (LcK P xs.length D i))
    (hd : ∀ ys H, ys.length = xs.length → P xs.length ys H → H D = some (.lst ys) → Qd H) :
    LcG (Itl K a) (gName j) tYes te vs σ D H1 Qd := by
  refine lc_list (xs := xs) (Lw P xs.length D) ⟨[], rfl, Nat.zero_le _, h0, upd_same⟩ (fun i H _ p => ?_) (fun i x H hx p => ?_) fun H p => ?_
  · obtain ⟨ys, _, _, hp, _⟩ := p
    exact ht i ys H hp
  · obtain ⟨ys, hl, _, hp, hD⟩ := p
    refine ⟨hw _, ?_⟩
    unfold tYes
    dsimp only
    rw [if_pos rfl]
    exact hs i x ys H hx (List.getElem?_eq_some_iff.mp hx).1 hl hp hD
  · obtain ⟨ys, hl, _, hp, hD⟩ := p
    exact hd ys H hl hp hD
/-- a loop over a tuple that stands still, turn by turn -/
theorem unrT {a : Addr} {xs : List V} {g : TG} {tb : TS} {nx bk ct : L2.St → Hp → Prop} {rt : VK} {H : Hp} (h : UnrT K a xs g tb nx rt xs σ H) :
    ForG (Itt K a) g tb ⟨nx, rt, bk, ct⟩ σ H := by
  refine for_tup (D := ⟨nx, rt, bk, ct⟩) (xs := xs) (fun i σ H => UnrT K a xs g tb nx rt (xs.drop i) σ H) h (fun i σ H hi p => ?_) (fun i x σ H hx p => ?_) fun σ H p => ?_
  · cases e : xs.drop i with
    | nil => rw [e] at p; exact p.1
    | cons y ys => rw [e] at p; exact p.1
  · have hi : i < xs.length := (List.getElem?_eq_some_iff.mp hx).1
    have e : xs.drop i = x :: xs.drop (i + 1) := by
      rw [List.drop_eq_getElem_cons hi]
      have := (List.getElem?_eq_some_iff.mp hx).2
      rw [this]
    rw [e] at p
    exact p.2
  · rw [List.drop_length] at p
    exact p.2
end
/-! ### comprehensions whose elements change nothing: f of each item -/
theorem same_upd {H H' : Hp} {D : Addr} {o : HO} (e : Same H H') (h : H D = none) : Same H (upd H' D o) := fun b x hb => by
  rw [upd_ne (ne_of_none hb h)]; exact e b x hb
theorem same_new {H : Hp} {p : Addr} {o : HO} (h : H p = none) : Same H (upd H p o) := same_upd (Same.refl H) h
theorem same_sqt {K : PySem.W.Frag} {H H' : Hp} {a : Addr} {xs : List V} (e : Same H H') (h : SqT K H a xs) : SqT K H' a xs := by
  rcases h with (h | ⟨o, h⟩) | h
  · exact .inl (.inl (e _ _ h))
  · exact .inl (.inr ⟨o, e _ _ h⟩)
  · exact .inr h
section
variable {σ : L2.St} {H1 : Hp} {D : Addr} {Qd : Hp → Prop} {te : TE} {vs : List Nat} {j : Nat} {K : PySem.W.Frag}
theorem lcTp {a : Addr} {xs : List V} (f : V → V) (hT : SqT K H1 a xs) (hn : H1 D = none) (hl : Nat.ble xs.length 100000 = true) (hw : ∀ x, wipe ((wipe σ vs).set j (some x)) vs = wipe σ vs)
    (hs : ∀ (i : Nat) (x : V) (H' : Hp) (R : VK), xs[i]? = some x → Same H1 H' → (∀ H4, Same H' H4 → R (f x) H4) → te ((wipe σ vs).set j (some x)) H' R)
    (hd : ∀ H', Same H1 H' → H' D = some (.lst (xs.map f)) → Qd H') :
    LcG (Itt K a) (gName j) tYes te vs σ D H1 Qd := by
  refine lcT (xs := xs) (fun i ys H' => ys = (xs.take i).map f ∧ Same H1 H') hw ⟨rfl, same_new hn⟩ (fun i ys H' p => same_sqt p.2 hT) (fun i x ys H' hx hi hy p hD => ?_) fun ys H' hy p hD => ?_
  · refine hs i x H' _ hx p.2 fun H4 e4 => lcK_ (e4 _ _ hD) hy hi (Nat.le_of_ble_eq_true hl) ⟨?_, same_upd (p.2.trans e4) hn⟩
    rw [p.1, List.take_add_one, hx, List.map_append]; rfl
  · refine hd H' p.2 ?_
    rw [hD, p.1, List.take_length]
theorem lcLp {a : Addr} {xs : List V} (f : V → V) (hT : SqL K H1 a xs) (hn : H1 D = none) (hl : Nat.ble xs.length 100000 = true) (hw : ∀ x, wipe ((wipe σ vs).set j (some x)) vs = wipe σ vs)
    (hs : ∀ (i : Nat) (x : V) (H' : Hp) (R : VK), xs[i]? = some x → Same H1 H' → (∀ H4, Same H' H4 → R (f x) H4) → te ((wipe σ vs).set j (some x)) H' R)
    (hd : ∀ H', Same H1 H' → H' D = some (.lst (xs.map f)) → Qd H') :
    LcG (Itl K a) (gName j) tYes te vs σ D H1 Qd := by
  refine lcL (xs := xs) (fun i ys H' => ys = (xs.take i).map f ∧ Same H1 H') hw ⟨rfl, same_new hn⟩ (fun i ys H' p => p.2.seq hT) (fun i x ys H' hx hi hy p hD => ?_) fun ys H' hy p hD => ?_
  · refine hs i x H' _ hx p.2 fun H4 e4 => lcK_ (e4 _ _ hD) hy hi (Nat.le_of_ble_eq_true hl) ⟨?_, same_upd (p.2.trans e4) hn⟩
    rw [p.1, List.take_add_one, hx, List.map_append]; rfl
  · refine hd H' p.2 ?_
    rw [hD, p.1, List.take_length]
end
/-! ### one object may change -/
def Kept (a : Addr) (H H' : Hp) : Prop := ∀ b o, b ≠ a → H b = some o → H' b = some o
theorem Kept.refl (a : Addr) (H : Hp) : Kept a H H := fun _ _ _ h => h
theorem Kept.trans {a : Addr} {H H1 H2 : Hp} (x : Kept a H H1) (y : Kept a H1 H2) : Kept a H H2 := fun b o n h => y b o n (x b o n h)
theorem kept_same {a : Addr} {H H' : Hp} (e : Same H H') : Kept a H H' := fun b o _ h => e b o h
theorem kept_upd {a : Addr} {H H' : Hp} {o : HO} (x : Kept a H H') : Kept a H (upd H' a o) := fun b u n h => by rw [upd_ne n]; exact x b u n h
theorem kept_new {a D : Addr} {H H' : Hp} {o : HO} (x : Kept a H H') (h : H' D = none) : Kept a H (upd H' D o) := fun b u n hb => by rw [upd_ne (ne_of_none (x b u n hb) h)]; exact x b u n hb
theorem kept_sql {a : Addr} {K : PySem.W.Frag} {H H' : Hp} {c : Addr} {xs : List V} (x : Kept a H H') (n : c ≠ a) (h : SqL K H c xs) : SqL K H' c xs := by
  rcases h with (h | ⟨o, h⟩) | h
  · exact .inl (.inl (x _ _ n h))
  · exact .inl (.inr ⟨o, x _ _ n h⟩)
  · exact .inr h
theorem kept_sqt {a : Addr} {K : PySem.W.Frag} {H H' : Hp} {c : Addr} {xs : List V} (x : Kept a H H') (n : c ≠ a) (h : SqT K H c xs) : SqT K H' c xs := by
  rcases h with (h | ⟨o, h⟩) | h
  · exact .inl (.inl (x _ _ n h))
  · exact .inl (.inr ⟨o, x _ _ n h⟩)
  · exact .inr h

/-! ### the reel of a law: cells, how many were begun, what is left of a great one -/
structure Hat (H : Hp) (a c : Addr) (ns : List Int) (n : Nat) : Prop where
  ex : ∃ t r : Int, H a = some (.lst [.ref c, .int t, .int r]) ∧ 0 ≤ t ∧ t ≤ n
  ne : c ≠ a
  cs : H c = some (.lst (ns.map V.int))
  le : ns.length ≤ 63
theorem Hat.at {H : Hp} {a c : Addr} {ns : List Int} {n : Nat} (h : Hat H a c ns n) : ∃ o, H a = Option.some o := by
  obtain ⟨t, r, e, _⟩ := h.ex
  exact ⟨_, e⟩
theorem Hat.na {H : Hp} {a c p : Addr} {ns : List Int} {n : Nat} (h : Hat H a c ns n) (hp : H p = none) : p ≠ a := by
  obtain ⟨o, e⟩ := h.at
  exact (ne_of_none e hp).symm
theorem Hat.nc {H : Hp} {a c p : Addr} {ns : List Int} {n : Nat} (h : Hat H a c ns n) (hp : H p = none) : p ≠ c := (ne_of_none h.cs hp).symm
theorem Hat.same {H H' : Hp} {a c : Addr} {ns : List Int} {n : Nat} (h : Hat H a c ns n) (e : Same H H') : Hat H' a c ns n := by
  obtain ⟨⟨t, r, h, h0⟩, h1, h2, h3⟩ := h
  exact ⟨⟨t, r, e _ _ h, h0⟩, h1, e _ _ h2, h3⟩
theorem Hat.mono {H : Hp} {a c : Addr} {ns : List Int} {n m : Nat} (h : Hat H a c ns n) (e : n ≤ m) : Hat H a c ns m := by
  obtain ⟨⟨t, r, h, h0, h4⟩, h1, h2, h3⟩ := h
  exact ⟨⟨t, r, h, h0, by omega⟩, h1, h2, h3⟩
theorem Hat.upd {H : Hp} {a c D : Addr} {ns : List Int} {n : Nat} {o : HO} (h : Hat H a c ns n) (hD : D ≠ a) (hc : D ≠ c) : Hat (L2.upd H D o) a c ns n := by
  obtain ⟨⟨t, r, h, h0⟩, h1, h2, h3⟩ := h
  exact ⟨⟨t, r, by rw [upd_ne hD.symm]; exact h, h0⟩, h1, by rw [upd_ne hc.symm]; exact h2, h3⟩
theorem Hat.new {H : Hp} {a c D : Addr} {ns : List Int} {n : Nat} {o : HO} (h : Hat H a c ns n) (hD : H D = none) : Hat (L2.upd H D o) a c ns n := h.upd (h.na hD) (h.nc hD)
theorem kept_at {a D : Addr} {H H' : Hp} {o : HO} (x : Kept a H H') (h : H D = none) : Kept a H (L2.upd H' D o) := fun b u n hb => by rw [upd_ne (ne_of_none hb h)]; exact x b u n hb
/-- a comprehension over a range whose elements draw: dn draws a turn at most, R of what is made so far -/
theorem lcRd {σ : L2.St} {H1 : Hp} {D : Addr} {Qd : Hp → Prop} {te : TE} {vs : List Nat} {j : Nat} {a c : Addr} {ns : List Int} {n dn k : Nat} {lo : Int} (R : Nat → List V → Prop)
    (hh : Hat H1 a c ns n) (hD : H1 D = none) (hk : k ≤ 100000) (hw : ∀ x, wipe ((wipe σ vs).set j (some x)) vs = wipe σ vs) (h0 : R 0 [])
    (hs : ∀ (i : Nat) (ys : List V) (H' : Hp) (Q : VK), i < k → ys.length = i → R i ys → Kept a H1 H' → Hat H' a c ns (n + dn * i) → (∀ y H4, Kept a H' H4 → Hat H4 a c ns (n + dn * (i + 1)) → R (i + 1) (ys ++ [y]) → Q y H4) → te ((wipe σ vs).set j (some (.int (lo + (i : Int))))) H' Q)
    (hd : ∀ (ys : List V) (H' : Hp), ys.length = k → R k ys → Kept a H1 H' → Hat H' a c ns (n + dn * k) → H' D = some (.lst ys) → Qd H') :
    LcG (Itr lo k) (gName j) tYes te vs σ D H1 Qd := by
  have da := hh.na hD
  have dc := hh.nc hD
  refine lcR (fun i ys H' => R i ys ∧ Kept a H1 H' ∧ Hat H' a c ns (n + dn * i)) hw ⟨h0, kept_at (Kept.refl _ _) hD, hh.new hD⟩ (fun i ys H' hi hy p hDy => ?_) fun ys H' hy p hDy => ?_
  · exact hs i ys H' _ hi hy p.1 p.2.1 p.2.2 fun y H4 k4 h4 r4 => lcK_ (k4 _ _ da hDy) hy hi hk ⟨r4, kept_at (p.2.1.trans k4) hD, h4.upd da dc⟩
  · exact hd ys H' hy p.1 p.2.1 p.2.2 hDy
theorem lcTd {K : PySem.W.Frag} {σ : L2.St} {H1 : Hp} {D : Addr} {Qd : Hp → Prop} {te : TE} {vs : List Nat} {j : Nat} {a c b : Addr} {ns : List Int} {n dn : Nat} {xs : List V} (R : Nat → List V → Prop) (hT : SqT K H1 b xs) (hb : b ≠ a)
    (hh : Hat H1 a c ns n) (hD : H1 D = none) (hk : xs.length ≤ 100000) (hw : ∀ x, wipe ((wipe σ vs).set j (some x)) vs = wipe σ vs) (h0 : R 0 [])
    (hs : ∀ (i : Nat) (x : V) (ys : List V) (H' : Hp) (Q : VK), xs[i]? = some x → ys.length = i → R i ys → Kept a H1 H' → Hat H' a c ns (n + dn * i) → (∀ y H4, Kept a H' H4 → Hat H4 a c ns (n + dn * (i + 1)) → R (i + 1) (ys ++ [y]) → Q y H4) → te ((wipe σ vs).set j (some x)) H' Q)
    (hd : ∀ (ys : List V) (H' : Hp), ys.length = xs.length → R xs.length ys → Kept a H1 H' → Hat H' a c ns (n + dn * xs.length) → H' D = some (.lst ys) → Qd H') :
    LcG (Itt K b) (gName j) tYes te vs σ D H1 Qd := by
  have da := hh.na hD
  have dc := hh.nc hD
  refine lcT (xs := xs) (fun i ys H' => R i ys ∧ Kept a H1 H' ∧ Hat H' a c ns (n + dn * i)) hw ⟨h0, kept_at (Kept.refl _ _) hD, hh.new hD⟩ (fun i ys H' p => kept_sqt p.2.1 hb hT) (fun i x ys H' hx hi hy p hDy => ?_) fun ys H' hy p hDy => ?_
  · exact hs i x ys H' _ hx hy p.1 p.2.1 p.2.2 fun y H4 k4 h4 r4 => lcK_ (k4 _ _ da hDy) hy hi hk ⟨r4, kept_at (p.2.1.trans k4) hD, h4.upd da dc⟩
  · exact hd ys H' hy p.1 p.2.1 p.2.2 hDy
theorem at_int {ns : List Int} {z : Int} (h0 : 0 ≤ z) (h1 : z < ns.length) : ∃ v, atI (ns.map V.int) z = some (.int v) := by
  obtain ⟨k, rfl⟩ := Int.eq_ofNat_of_zero_le h0
  have hk : k < ns.length := by omega
  exact ⟨ns[k], atI_nat (by rw [List.getElem?_map, List.getElem?_eq_getElem hk]; rfl)⟩
theorem at_some {xs : List V} {z : Int} (h0 : 0 ≤ z) (h1 : z < xs.length) : ∃ v, atI xs z = some v ∧ v ∈ xs := by
  obtain ⟨k, rfl⟩ := Int.eq_ofNat_of_zero_le h0
  have hk : k < xs.length := by omega
  exact ⟨xs[k], atI_nat (List.getElem?_eq_getElem hk), List.getElem_mem hk⟩
theorem cut_to (xs : List V) (k : Nat) : cutV xs none (some (k : Int)) = xs.take k := by
  unfold cutV
  rw [HT.sIx_none, HT.sIx_nat, List.drop_zero, Nat.sub_zero]
  by_cases h : k ≤ xs.length
  · rw [Nat.min_eq_left h]
  · rw [Nat.min_eq_right (by omega), List.take_of_length_le (Nat.le_refl _), List.take_of_length_le (by omega)]
/-- xs != [] of ints -/
theorem ne_nil_ {K : PySem.W.Frag} {H : Hp} {Q : VK} {c e : Addr} {ns : List Int} (hc : SqL K H c (ns.map V.int)) (he : SqL K H e []) (h : Q (.bl (!ns.isEmpty)) H) : rNeU K (.ref c) (.ref e) H Q := by
  have dp : ∀ ns : List Int, DpAll K H (ns.map V.int) (ns.map PyData.int) := fun ns => by
    induction ns with
    | nil => exact .nil
    | cons n r ih => exact .cons (.int n) ih
  refine .inr ⟨.list (ns.map PyData.int), .list [], .lst hc (dp ns), .lst he .nil, PySem.W.shaped_ints ns, PySem.W.shaped_ints [], ?_⟩
  have e2 : PyData.eqv (.list (ns.map PyData.int)) (.list []) = ns.isEmpty := by
    cases ns with
    | nil => simp [PyData.eqv, PyData.eqvAll]
    | cons n r => simp [PyData.eqv, PyData.eqvAll]
  rw [e2]; exact h
end HX
/-! super().__init__(..) as the first statement of an own class's __init__ -/
namespace HS
open PySem PySem.Spec PyProof.Rows L2 NdefX StX ClX
/-- what stands of a def that closes over __class__, cell cc, class D; its code object at cda -/
structure SupDef (P : Program) (K : PySem.W.Frag) (mg : Str → Option Value) (F : NF) (f D cc : Addr) : Prop where
  lk : ∃ (oc : Value) (od : Option Addr) (dV kV doc pm ct : Value) (an : Option Addr) (osl : Array (Option Value)), K.lookup f = some ⟨oc, od, .func (PySem.W.fnX F.name F.qual F.params F.body F.scope F.cl dV kV doc pm an (.ref F.c) ct), osl⟩ ∧
    (∀ us : List Value, us.length = (F.params.args.map (·.arg)).length → bindArgs (PySem.W.fnX F.name F.qual F.params F.body F.scope F.cl dV kV doc pm an (.ref F.c) ct) ⟨us, []⟩ = pure ((F.params.args.map (·.arg)).zip us)) ∧
    ∀ us : List Value, us.length = (F.params.args.map (·.arg)).length → bindArgs (PySem.W.fnX F.name F.qual F.params F.body F.scope F.cl dV kV doc pm an (.ref F.c) ct) ⟨us.take 1, (F.params.args.map (·.arg)).tail.zip us.tail⟩ = pure ((F.params.args.map (·.arg)).zip us)
  cd : PySem.W.codeIn K (.ref F.c) F.qual = true
  cl : F.cl = [(("__class__" : Str), cc)]
  code : ∃ (ccl : Value) (cdd : Option Addr) (vs : Array Value) (ccs : Array (Option Value)) (file : Str) (tf : Tok), K.lookup F.c = some ⟨ccl, cdd, .fields vs, ccs⟩ ∧ vs[2]? = some (.str file tf) ∧ ((P.main.file : Str) == file) = true
  cell : ∃ (ccl : Value) (cdd : Option Addr) (ccs : Array (Option Value)), K.lookup cc = some ⟨ccl, cdd, .cell (some (.ref D)), ccs⟩
  isD : ∃ cdD, PySem.W.clsIn K D = some cdD
  sup : mg "super" = none
  top : (P.main.scope.names.lookup ("super" : Str)).isSome = false
/-- what a class C must have that super() of D finds the def at g -/
structure SupCls (K : PySem.W.Frag) (C D : Addr) (m : Str) (g : Addr) : Prop where
  hm : PySem.W.ks_superIn K C D m = some (some (.ref g))
  ty : PySem.W.typeIn K (.ref g) = some (.type "function")
  fi : PySem.W.fnIn K g = true
  sub : PySem.W.mroIn K C (.ref D) = some true
  op : PySem.W.nsIn K cStatics "thirdparty.any" = some none

section
variable {P : Program} {w : World} {K : PySem.W.Frag} {mg : Str → Option Value} {base : Heap} {k : Nat} {F : NF} {f D cc : Addr} {ps N : List Str} {sp : Sp}
def argsB (ps : List Str) : Bool → List Value → Args
  | false, us => ⟨us, []⟩
  | true, us => ⟨us.take 1, ps.tail.zip us.tail⟩
def FnB (P : Program) (w : World) (K : PySem.W.Frag) (mg : Str → Option Value) (base : Heap) (CX : CXT) (k : Nat) (f : Addr) (ps : List Str) (kw : Bool) (sp : Sp) : Prop :=
  ∀ (A : Around) (outer : List Env) (s : Shared) (H : Hp) (us : List Value) (vs : List V) (Q : VK) (E : XK), Room k A → Env0 P w K mg base A outer s H → Vals vs us → sp vs H Q E →
    codeAny (model P w) A (.call (.ref f) (argsB ps kw us)) (CR CX outer P w H s Q E) s
theorem fn_superB (kw : Bool) {e : Expr} {es : List Expr} {rest : List Stmt} {p0 p1 apos cpos spos : Pos} {pl : Sem Bool} (SD : SupDef P K mg F f D cc)
    (hbody : F.body = .Expr (.Call (.Attribute (.Call (.Name "super" p0) [] [] p1) "__init__" apos) (e :: es) [] cpos) spos :: rest)
    (S : NScope N ps [("__class__" : Str)] F.scope) (hps : F.params.args.map (·.arg) = ps) (hpo : F.params.posonlyargs = []) (hself : ps.head? = some ("self" : Str)) (hN0 : N[0]? = some ("self" : Str)) (hks : F.scope.names.lookup ("super" : Str) = some .globalImplicit)
    (hst : ∀ env, starEach (e :: es) env = (false, eval e env) :: starEach es env) (hpl : ∀ env, (backTo cpos (starEach es env)).any (·.1) = false)
    (hi : ∀ L, interactive (envF F f L) = false) (hsw : ∀ L, swapsWith (.Call (.Attribute (.Call (.Name "super" p0) [] [] p1) "__init__" apos) (e :: es) [] cpos) none spos.line (envF F f L) = pure false)
    (he : ∀ L, eval (.Call (.Attribute (.Call (.Name "super" p0) [] [] p1) "__init__" apos) (e :: es) [] cpos) (envF F f L) = (do
      let ov ← attributeBase (.Call (.Name "super" p0) [] [] p1) "__init__" (envF F f L) (eval (.Call (.Name "super" p0) [] [] p1) (envF F f L))
      standAt apos.atName
      let (f', first) ← holding [ov] (getMethod ov "__init__" pl)
      callWith cpos f' first (backTo cpos (starEach (e :: es) (envF F f L))) []))
    (len : ∀ vs H Q E, sp vs H Q E → vs.length = ps.length)
    (h : ∀ (A : Around) (outer : List Env) (s : Shared) (H : Hp) (vs : List V) (Q : VK) (E : XK), Room k (A.deeper (envF F f s.heap.objs.size)) → sp vs H Q E →
      ∃ (x C dx g : Addr) (fs : List (Str × V)) (vr : List V) (ta : TA) (tr : TS) (spB : Sp), vs = .ref x :: vr ∧ H x = some (.ins C dx fs) ∧ SupCls K C D "__init__" g ∧ FnR P w K mg base CX0 k g spB ∧
        PA (ncx CX0 P w K mg base N F f A outer s H E)  (e :: es) ta ∧ PSs (ncx CX0 P w K mg base N F f A outer s H E)  rest tr ∧
        ta (startF N vs [none]) H fun ws H1 => spB (.ref x :: ws) H1 (fun _ H2 => tr { nx := fun _ H' => Q .non H', rt := Q } (startF N vs [none]) H2) E0) :
    FnB P w K mg base CX0 (k + 1) f ps kw sp := by
  intro A outer s H us vs Q E hr e0 r hsp
  have hl := len _ _ _ _ hsp
  obtain ⟨oc, od, dV, kV, doc, pm, ct, an, osl, lk, hb, hbk⟩ := SD.lk
  have KX : K.In s.heap := e0.mod.kin.keeps fun b o e => (e0.bs b o e).1
  have lim : s.heap.NoLimit := e0.mod.nolimit.keeps fun b o e => (e0.bs b o e).1
  have hul : us.length = ps.length := by rw [← r.length]; exact hl
  have hbind : BindsTo s (PySem.W.fnX F.name F.qual F.params F.body F.scope F.cl dV kV doc pm an (.ref F.c) ct) (argsB ps kw us) (ps.zip us) := by
    cases kw with
    | false =>
      have z := hb us (by rw [hps]; exact hul)
      rw [hps] at z
      exact .of_eq z
    | true =>
      have z := hbk us (by rw [hps]; exact hul)
      rw [hps] at z
      exact .of_eq z
  obtain ⟨x, C, dx, g, fs, vr, ta, tr, spB, rfl, hx, SC, G, hta, htr, hgo⟩ := h A outer s H vs Q E (hr.deeper _) hsp
  obtain ⟨ccl, cdd, cvs, ccs, file, tf, hcode, hvs, hfile⟩ := SD.code
  obtain ⟨cl1, cl2, cl3, hcell⟩ := SD.cell
  obtain ⟨cdD, hD⟩ := SD.isD
  have hcl := SD.cl
  have hccH : H cc = none := (e0.bs cc _ (e0.mod.kin _ _ hcell)).2
  have CA : CellsAt F.cl [("__class__" : Str)] [none] s.heap H := by
    rw [hcl]
    refine ⟨rfl, fun y c e => ?_, fun y z c e1 e2 => ?_, fun i y e => ?_⟩
    · have e' := PySem.mem_of_lookup e
      rw [List.mem_singleton] at e'
      cases e'
      exact ⟨hccH, _, _, KX _ _ hcell, rfl⟩
    · have a1 := PySem.mem_of_lookup e1
      have a2 := PySem.mem_of_lookup e2
      rw [List.mem_singleton] at a1 a2
      cases a1
      cases a2
      rfl
    · match i, e with
      | 0, e =>
        cases e
        exact ⟨cc, rfl, fun v z => by cases z⟩
  refine PySem.ks_codeAny_call_defAt (fd := PySem.W.fnX F.name F.qual F.params F.body F.scope F.cl dV kV doc pm an (.ref F.c) ct) (body := F.body) (binds := ps.zip us) hr.depth (KX _ _ lk) rfl lim (PySem.W.codeRec_of KX SD.cd) rfl hbind S.nocell (fun y hy => S.par y.1 (List.of_mem_zip (a := y.1) (b := y.2) hy).1) (fun h₁ hns hk₁ => ?_) S.co S.gen S.kind
  have I : Inv (ncx CX0 P w K mg base N F f A outer s H E) [] (startF N (.ref x :: vr) [none]) H { s with heap := h₁, toks := s.toks + (ps.zip us).length } := inv_startN S hr.hd e0 hl r CA hns hk₁
  have KX1 := I.kIn
  show _root_.PySem.wpAt (model P w) (A.deeper (envF F f s.heap.objs.size)) (.func F.body (envF F f s.heap.objs.size)) (execs F.body (envF F f s.heap.objs.size)) _ _ _
  rw [hbody]
  refine PySem.ks_wpAt_execs_cons (PySem.ks_wpAt_Expr_any (PySem.ks_wpAt_MethodCall (pl := pl) ?_ (he _)) (hi _) (hsw _))
  have hxI : ∃ ox, h₁.get? x = some ox ∧ ox.cls = .ref C ∧ ∀ c, ox.data ≠ .cls c := by
    obtain ⟨_, _, _, e1, _⟩ := (show ObjOk P w H h₁ x (.ins C dx fs) from I.hok x _ hx)
    exact ⟨_, e1, rfl, fun c z => nomatch z⟩
  obtain ⟨ox, hx1, hx2, hx3⟩ := hxI
  obtain ⟨oD, hD1, hD2⟩ : ∃ oD, h₁.get? D = some oD ∧ oD.data = .cls cdD := by
    unfold PySem.W.clsIn at hD
    split at hD
    · rename_i c d cd' sl ho
      cases hD
      exact ⟨_, KX1 _ _ ho, rfl⟩
    · cases hD
  obtain ⟨m, hnm, hlk⟩ := I.loc
  obtain ⟨mb, hb1, hb2⟩ := I.mod.blt
  cases hps0 : F.params.args with
  | nil => rw [hps0] at hps; rw [← hps] at hself; cases hself
  | cons ar ars =>
  have har : ar.arg = ("self" : Str) := by
    rw [← hps, hps0] at hself
    exact Option.some.inj hself
  have hselfM : m "self" = some (.ref x) := by
    obtain ⟨u, ru, lo⟩ := hlk 0 "self" (.ref x) hN0 rfl (.inl (S.par _ (by rw [← hps, hps0, List.map_cons, har]; exact List.mem_cons_self)))
    have ru' : u = Value.ref x := ru
    subst ru'
    rcases lo with ⟨_, z⟩ | ⟨z, _⟩
    · exact z
    · have z' := S.par ("self" : Str) (by rw [← hps, hps0, List.map_cons, har]; exact List.mem_cons_self)
      have z2 : F.scope.names.lookup ("self" : Str) = some .cell ∨ F.scope.names.lookup ("self" : Str) = some .free := z
      rw [z'] at z2
      rcases z2 with z2 | z2 <;> cases z2
  refine PySem.ks_wpAt_super_base (env := envF F f s.heap.objs.size) (ar := ar) hks (S.frk _ (List.mem_singleton.mpr rfl)) (by decide) rfl (KX1 _ _ lk) rfl (by show (F.params.posonlyargs ++ F.params.args).head? = some ar; rw [hpo, hps0]; rfl) rfl (KX1 _ _ hcode) rfl hvs hfile SD.top ?_
  refine PySem.W.ks_loadName_global S.kind hks (PySem.Calls.loadGlobal_builtin (I.mod.glob.keeps I.bk) SD.sup (hb1.keeps I.bk) ((hb2 "super" (by decide)).trans (by decide +kernel : bootBuiltins "super" = some (.type "super"))) ⟨rfl, ?_⟩)
  refine wpAny_loadName_free S.kind (S.frk _ (List.mem_singleton.mpr rfl)) (by show List.lookup ("__class__" : Str) F.cl = some cc; rw [hcl]; rfl) ⟨_, KX1 _ _ hcell, rfl⟩ ?_
  refine wpAny_loadName_local S.kind (S.par _ (by rw [← hps, hps0]; exact List.mem_cons_self)) hnm (by rw [har]; exact hselfM) ?_
  refine PySem.ks_wpAny_isType_cls hD1 hD2 ⟨rfl, ?_⟩
  refine PySem.ks_wpAny_call_super hD1 hD2 hx1 hx2 hx3 (PySem.W.looks_mroIn KX1 SC.sub) (fun h2 e2 k2 => ?_)
  have I2 : Inv (ncx CX0 P w K mg base N F f A outer s H E) [(h₁.objs.size, PySem.W.ks_superObj D x C)] (startF N (.ref x :: vr) [none]) H { s with heap := h2, toks := s.toks + (ps.zip us).length } := pin_new (s := { s with heap := h₁, toks := s.toks + (ps.zip us).length }) I k2 (Nat.le_refl _) e2 (fun v z => nomatch z)
  have hm := SC.hm
  cases hc : PySem.W.clsIn K C with
  | none => unfold PySem.W.ks_superIn at hm; rw [hc] at hm; cases hm
  | some cd =>
  unfold PySem.W.ks_superIn at hm
  rw [hc] at hm
  obtain ⟨of, hof, hofc⟩ : ∃ of, h2.get? g = some of ∧ of.cls = .type "function" := by
    have ht' : (K.lookup g).map (·.cls) = some (.type "function") := SC.ty
    cases z : K.lookup g with
    | none => rw [z] at ht'; cases ht'
    | some of => rw [z] at ht'; exact ⟨of, I2.kIn _ _ z, Option.some.inj ht'⟩
  have hxC : x ≠ C := by
    rintro rfl
    unfold PySem.W.clsIn at hc
    split at hc
    · rename_i c d cd' sl ho
      have z := (I.bs _ _ (I.mod.kin _ _ ho)).2
      rw [hx] at z
      cases z
    · cases hc
  refine PySem.ks_wpAny_getMethod_super (pin_at I2) (PySem.W.looks_opaque I2.kIn SC.op) (l₀ := cd.mro) (fun A Q E s k q => wpAny_bind ((PySem.W.looks_clsIn I2.kIn hc) A _ E s k (wpAny_pure q))) rfl I2.kIn hm hof hofc hxC (by decide) ?_
  have I3 : Inv (ncx CX0 P w K mg base N F f A outer s H E) [(h2.objs.size, PySem.W.methodObj (.ref g) (.ref x)), (h₁.objs.size, PySem.W.ks_superObj D x C)] (startF N (.ref x :: vr) [none]) H { s with heap := h2.push (PySem.W.methodObj (.ref g) (.ref x)), toks := s.toks + (ps.zip us).length + 1 } :=
    pin_new (s := { s with heap := h2, toks := s.toks + (ps.zip us).length }) I2 (fun _ _ z => Heap.get?_push_of_some _ z) (Nat.le_refl _) (Heap.get?_push_size h2 rfl) (fun v z => nomatch z)
  have hq := pin_at I3
  have hL : h2.objs.size ≠ (ncx CX0 P w K mg base N F f A outer s H E).env.locals := (I3.pin (h2.objs.size, PySem.W.methodObj (.ref g) (.ref x)) (List.mem_append_right _ List.mem_cons_self)).2.2.1
  have hbn : base.get? h2.objs.size = none := base_none I2 (Nat.le_refl _)
  refine PySem.W.callWith_M (K := K) (h₀ := base) (first := []) I3.ok.mod.kin (news_at hL hbn hq) List.mem_cons_self SC.fi ?_ (hst _) (hpl _)
  refine thn (hta.run cpos _ _ _ H _ I3 hgo) fun ws s4 ⟨vs4, H4, I4, r4, q4⟩ => ⟨⟨pin_at I4, I4.kIn⟩, ?_⟩
  have hroom : Room k (ncx CX0 P w K mg base N F f A outer s H E).A := hr.deeper _
  have z := wpAny_call (PySem.W.method_call (pin_at I4) (run_fnR (us := .ref x :: ws) (vs := .ref x :: vs4) G hroom pass0 I4 (.cons rfl r4) q4))
  refine wpAny_mono z (fun u s5 h5 => ?_) (fun e s5 h5 => ?_)
  · obtain ⟨v5, H5, I5, r5, q5⟩ := h5
    refine _root_.PySem.wpAt_of_wpAny ?_
    refine wpAny_mono (htr.run _ s5 _ H5 _ I5 q5) (fun fl s' hs => ?_) fun e s' hs => hs
    have fin : ∀ {σ' : L2.St} {H' : Hp} {v : V} {u : Value} {pn : List (Addr × Obj)}, Inv (ncx CX0 P w K mg base N F f A outer s H E) pn σ' H' s' → RelV v u → Q v H' → CE outer P w H s Q u s' :=
      fun {σ' H' v u pn} J rv q => ⟨v, H', J.os, J.bare, J.base, J.hok, rv, q⟩
    cases fl with
    | ret u =>
      obtain ⟨v, σ', H', J, rv, q⟩ := hs
      exact fin J rv q
    | next =>
      obtain ⟨σ', H', J, q⟩ := hs
      exact fin (v := V.non) (u := Value.none) J rfl q
    | brk =>
      obtain ⟨_, _, _, q⟩ := hs
      exact False.elim q
    | cont =>
      obtain ⟨_, _, _, q⟩ := hs
      exact False.elim q
  · exact h5
end
/-! an own class made by names alone, in the order of the parameters -/
section
variable {X : Cx} {CX : CXT} {k : Nat} {f C : Addr} {ps : List Str} {sp : Sp} {E : XK} {x : Str} {p pos : Pos} {kws : List Keyword} {tk : TA}
theorem run_makeB {pins : List (Addr × Obj)} {σ : L2.St} {H : Hp} {s : Shared} {Q : VK} {us : List Value} {vs : List V} (M : Mk X.K C f) (F : FnB X.prog X.w X.K X.mg X.base CX k f ps true sp) (hr : Room (k + 1) X.A) (hx : Passes CX X E) (I : Inv X pins σ H s) (r : Vals vs us)
    (h : ∀ x dx, H x = Option.none → H dx = Option.none → dx ≠ x → sp (V.ref x :: vs) (upd (upd H dx (.own x)) x (.ins C dx [])) (fun v H2 => v = .non ∧ Q (.ref x) H2) E) :
    wpAny (model X.prog X.w) X.A (call (.ref C) [] (ps.tail.zip us)) (EP X pins σ Q) X.xe s := by
  have hq := h (s.heap.objs.size + 1) s.heap.objs.size (I.hok.fresh (Nat.le_succ _)) (I.hok.fresh (Nat.le_refl _)) (Nat.ne_of_lt (Nat.lt_succ_self _))
  have I2 := Inv.made (C := C) I
  have r2 : Vals (V.ref (s.heap.objs.size + 1) :: vs) (Value.ref (s.heap.objs.size + 1) :: us) := .cons rfl r
  refine wpAny_call (make_map (f := f) I.kIn M.makes M.init (beq_iff_eq.mp M.fn) (codeAny_mono (F _ X.stack _ _ (Value.ref (s.heap.objs.size + 1) :: us) _ _ E (hr.make C [] (ps.tail.zip us)) (I2.env0.make C [] (ps.tail.zip us)) r2 hq) fun r s' hq' => ?_))
  cases r with
  | error e => exact hx pins σ _ _ e s' I2 hq'
  | ok fl =>
    cases fl with
    | ret u =>
      obtain ⟨v, H', I3, rv, ev, q3⟩ := I2.after hq'
      subst ev
      exact ⟨rv, ⟨V.ref (s.heap.objs.size + 1), H', I3, rfl, q3⟩⟩
    | next => exact False.elim hq'
    | brk => exact False.elim hq'
    | cont => exact False.elim hq'
theorem pe_makeB (M : Mk X.K C f) (F : FnB X.prog X.w X.K X.mg X.base CX k f ps true sp) (hr : Room (k + 1) X.A) (hg : Gl X x) (hm : X.mg x = some (.ref C)) (hx : Passes CX X E) (hkw : PK X kws tk)
    (hks : (backToKw pos (keywordEach kws X.env)).filterMap (·.1) = ps.tail := by rfl) (hall : (backToKw pos (keywordEach kws X.env)).all (·.1.isSome) = true := by rfl) (hdb : (x == ("__debug__" : Str)) = false := by decide)
    (hpl : ((backTo pos (starEach [] X.env)).any (·.1) || (backToKw pos (keywordEach kws X.env)).any (·.1.isNone)) = false := by rfl) : PE X (.Call (.Name x p) [] kws pos) (tMakeR C sp E tk) := by
  refine ⟨fun pins s σ H Q I h => ?_⟩
  refine wpAny_Call_Name_kw (ld_glob I hg hm ?_ hdb)
  refine PySem.W.callWith_KW0 (h₀ := X.base) I.ok.mod.kin M.kp hall ?_ hpl
  refine thn (hkw.run pos pins s σ H _ I h) fun ws s2 ⟨zs, H2, I2, rz, q2⟩ => ⟨I2.kIn, ?_⟩
  rw [hks]
  exact run_makeB M F hr hx I2 rz q2
end
end HS
/-! e.__class__, C.__name__, == and != by an own __eq__ with any answer -/
namespace HP
open PySem PySem.Spec PyProof.Rows L2 StX ClX
/-! ### the name of a class -/
structure ClsNm (K : PySem.W.Frag) (C : Addr) (nm : Str) : Prop where
  rd : PySem.W.readsIn K C (.type "type") = true
  at_ : PySem.W.findCls K (.ref C) (.type "type") "__name__" = some (.get (.builtin "getset_descriptor.__get__") (.builtin "type.__name__") (.ref C) (.type "type"))
  lk : ∃ (od : Option Addr) (cd : ClassData) (sl : Array (Option Value)) (tk : Tok), K.lookup C = some ⟨.type "type", od, .cls cd, sl⟩ ∧ sl[2]? = some (some (.str nm tk))
section
open PySem.W PySem.Calls Builtin Builtin.Getset_descriptor
variable {prog : Program} {w : World} {A : Around} {E : Value → Shared → Prop} {s : Shared} {R : Result → Shared → Prop} {C : Addr} {nm : Str} {tk : Tok} {od : Option Addr} {cd : ClassData} {sl : Array (Option Value)}
theorem nm_get {tp : Value} (hC : s.heap.get? C = some ⟨.type "type", od, .cls cd, sl⟩) (hs : sl[2]? = some (some (.str nm tk))) (h : R (.ok (.ret (.str nm tk))) s) :
    codeAny (model prog w) A (.call (.builtin "getset_descriptor.__get__") ⟨[.builtin "type.__name__", .ref C, tp], []⟩) R s := by
  obtain ⟨hh, g, dr, t, os⟩ := s
  have L0 : Looks (model prog w) hh (typeOf (.ref C)) (.type "type") := fun A Q E s k q => by
    refine wpAny_typeOf ⟨_, k _ _ hC, rfl⟩ q
  have L1 : Looks (model prog w) hh (isSubtype (.type "type") (.type "type")) true := Looks.of_pure (by rw [isSubtype_type]; kernel_rfl)
  refine codeAny_call_builtin KF.slot_gs.plain KF.entry_gs (KF.slot_gs.check _ _ _ _ _ _ _ _ ktyn_type (KF.args_gs _ _ _) ?_)
  unfold Builtin.«getset_descriptor.__get__» descrGet
  rw [dga_obj]
  refine wpAny_bind (wpAny_pure ?_)
  unfold descrGetter descrCheckInstance descrNameAndClass isInstance
  simp only [ktyn_owner]
  repeat lk
  refine ⟨Code.quiet_builtin _ (by decide +kernel), codeAny_builtin ktyn_entry ?_⟩
  unfold Builtin.«type.__name__» keptObject PySem.slotAt
  dsimp only
  refine wpAny_bind (wpAny_bind (wpAny_loadPart_at hC ?_))
  simp only [hs, Option.join]
  first
    | exact wpAny_pure (wpAny_bind (wpAny_pure (wpAny_pure h)))
    | exact wpAny_pure (wpAny_bind (wpAny_bind (wpAny_pure (wpAny_pure h))))
    | exact wpAny_pure (wpAny_pure h)
    | exact wpAny_pure (wpAny_bind (wpAny_pure h))
    | exact wpAny_bind (wpAny_pure (wpAny_pure h))
    | trace_state
end
section
variable {X : Cx} {e : Expr} {ta : TE} {K : PySem.W.Frag} {pos : Pos}
def tName (K : PySem.W.Frag) (ta : TE) : TE := fun σ H Q => ta σ H fun x H1 => ∃ C nm, x = .ref C ∧ ClsNm K C nm ∧ Q (.str nm) H1
theorem pe_name (he : PE X e ta) (hb : attributeBase e "__name__" X.env (eval e X.env) = eval e X.env := by rfl) (hK : X.K = K := by rfl) : PE X (.Attribute e "__name__" pos) (tName K ta) := by
  cases hK
  refine ⟨fun pins s σ H Q I h => ?_⟩
  refine attr_of hb (thn (he.run pins s σ H _ I h) fun u s1 ⟨x, H1, I1, rx, C, nm, ex, k, q⟩ => ?_)
  subst ex
  obtain rfl : u = Value.ref C := rx
  obtain ⟨od, cd, sl, tk, hl, hs⟩ := k.lk
  refine PySem.W.cls_bind I1.kIn k.rd k.at_ (wpAny_call (nm_get (s := { s1 with toks := s1.toks + 1 }) (I1.kIn _ _ hl) hs ?_))
  exact PySem.W.handed_on rfl ⟨.str nm, H1, I1.tok _, ⟨_, rfl⟩, q⟩
/-! ### the class of an instance -/
structure HasCls (K : PySem.W.Frag) (C : Addr) : Prop where
  pg : PySem.W.plainGet K C "__class__" = true
  hd : PySem.W.hasDictIn K C = true
  at_ : PySem.W.findIn K (.ref C) "__class__" = some (some (.builtin "object.__class__"))
  sp : PySem.W.specialIn K (.builtin "object.__class__") "__get__" = some (some (.builtin "getset_descriptor.__get__"))
  tk : PySem.W.takesIn K (.builtin "object.__class__") = some true
  ob : PySem.W.mroIn K C (.type "object") = some true
def tClass (K : PySem.W.Frag) (ta : TE) : TE := fun σ H Q => ta σ H fun x H1 => ∃ a C dx fs, x = .ref a ∧ H1 a = some (.ins C dx fs) ∧ HasCls K C ∧ Q (.ref C) H1
theorem pe_class (he : PE X e ta) (hb : attributeBase e "__class__" X.env (eval e X.env) = eval e X.env := by rfl) (hK : X.K = K := by rfl) : PE X (.Attribute e "__class__" pos) (tClass K ta) := by
  cases hK
  refine ⟨fun pins s σ H Q I h => ?_⟩
  refine attr_of hb (thn (he.run pins s σ H _ I h) fun u s1 ⟨x, H1, I1, rx, a, C, dx, fs, ex, ha, k, q⟩ => ?_)
  subst ex
  obtain rfl : u = Value.ref a := rx
  obtain ⟨mA, J, _⟩ := ins_get I1.hok ha
  obtain ⟨od, J, _⟩ := J.look
  obtain ⟨m, hF⟩ := I1.fr
  exact PySem.W.get_class hF I1.ok.mod.kin J k.pg k.hd k.at_ k.sp k.tk k.ob ⟨.ref C, H1, I1.tok _, rfl, q⟩
end
/-! ### == and != by an own __eq__ -/
structure EqCls (K : PySem.W.Frag) (C D f : Addr) : Prop where
  eq : PySem.W.findIn K (.ref C) "__eq__" = some (some (.ref f))
  fn : PySem.W.isFn K (.ref f) = true
  nf : PySem.W.notFirst K C (.ref D) = true
  ne : PySem.W.findIn K (.ref C) "__ne__" = some (some (.builtin "object.__ne__"))
  ob : PySem.W.mroIn K C (.type "object") = some true
def rEqO (neg : Bool) (K : PySem.W.Frag) (f : Addr) (sp : Sp) : R2 := fun x y H Q => ∃ a b C dx fs D dy gs, x = .ref a ∧ y = .ref b ∧ H a = some (.ins C dx fs) ∧ H b = some (.ins D dy gs) ∧ EqCls K C D f ∧
  sp [.ref a, .ref b] H (fun v H' => ∃ r, v = .bl r ∧ Q (.bl (if neg then !r else r)) H') E0
section
open PySem.W
variable {prog : Program} {w : World} {A : Around} {E : Value → Shared → Prop} {s : Shared} {K : Frag} {x C : Addr} {ox : Obj} {od : Option Obj} {b tb : Value}
theorem bind_ne (self : Value) : bindSpecial (.builtin "object.__ne__") self = pure (.builtin "object.__ne__", [self]) := PySem.F.slot_object_ne.bind self
theorem ifBound_ne {M : Model} {args : List Value} {Q : Option Value → Shared → Prop} (X : K.In s.heap) (I : InstAt s.heap x ox C od) (hs : findIn K (.ref C) "__ne__" = some (some (.builtin "object.__ne__")))
    (h : wpAny M A (call (.builtin "object.__ne__") (.ref x :: args)) (fun v => Q (some v)) E s) : wpAny M A (callSpecialIfBound? (.ref x) "__ne__" args) Q E s := by
  simp only [callSpecialIfBound?, bindSpecialIfBound?]
  refine wpAny_holding (wpAny_bind (wpAny_bind (wpAny_bind (I.type.here ((looks_findIn X hs).here ?_)))))
  refine wpAny_bind (wpAny_askSetting (wpAny_ite ?_))
  have fin : wpAny M A (call (.builtin "object.__ne__") ([.ref x] ++ args) >>= fun v => pure (some v)) Q E s := wpAny_bind (wpAny_mono h (fun v s' h' => wpAny_pure h') fun _ _ h' => h')
  split
  · exact wpAny_bind (wpAny_of_eq (bind_ne _) (wpAny_pure (by exact fin)))
  · exact wpAny_tryCatch (wpAny_bind (wpAny_of_eq (bind_ne _) (wpAny_pure (by exact fin))))
/-- x != b, where x's class has object's __ne__: by its __eq__ -/
theorem ne_run {f : Addr} {Q : Value → Shared → Prop} (hu : A.units + 2 < cLine) (X : K.In s.heap) (I : InstAt s.heap x ox C od) (hb : Looks (model prog w) s.heap (typeOf b) tb) (hn : notFirst K C tb = true)
    (hne : findIn K (.ref C) "__ne__" = some (some (.builtin "object.__ne__"))) (hs : findIn K (.ref C) "__eq__" = some (some (.ref f))) (hf : isFn K (.ref f) = true) (hob : mroIn K C (.type "object") = some true)
    (h : wpAny (model prog w) A.in1 (call (.ref f) [.ref x, b]) (fun v s' => ∃ r, v = .bool r ∧ Q (.bool (!r)) s') (fun _ _ => False) s) : wpAny (model prog w) A (richCompare .NotEq (.ref x) b) Q E s := by
  have one : wpAny (model prog w) A (tryCompare (.ref x) "__ne__" b) (fun r s' => ∃ v, r = some v ∧ Q v s') E s := by
    unfold tryCompare
    refine wpAny_bind (ifBound_ne X I hne ?_)
    have sub : Looks (model prog w) s.heap (isInstance (.ref x) (.type "object")) true := I.type.andThen (looks_mroIn X hob)
    refine wpAny_call (codeAny_call_builtin PySem.F.slot_object_ne.plain PySem.F.entry_object_ne (@check_slot (model prog w) _ _ s "object.__ne__" "object" "__ne__" (.ref x) [b] [] _ (by decide +kernel) (by decide +kernel) sub (PySem.F.args_object_ne_2 _ _) ?_))
    unfold Builtin.«object.__ne__»
    refine wpAny_bind (wpAny_of_eq (a := (Value.ref x, [b])) (by first | rfl | kernel_rfl) ?_)
    dsimp only
    refine wpAny_bind (wpAny_cRoomFor (show A.in1.units < cLine from by show A.units + 1 < cLine; omega) ?_)
    refine wpAny_bind (ifBound_K X I hs hf (wpAny_mono h (fun v s' hv => ?_) fun _ _ z => z.elim))
    obtain ⟨r, rfl, q⟩ := hv
    dsimp only
    exact wpAny_bind (wpAny_truthy_bool (wpAny_pure (wpAny_pure ⟨_, rfl, q⟩)))
  unfold richCompare
  simp only [oneThing_ref]
  refine wpAny_holding (wpAny_bind (wpAny_cRoomFor (by omega) ?_))
  refine wpAny_bind (I.type.here (wpAny_bind (hb.here ?_)))
  have X' := X
  split
  · rename_i q
    have e : subIn K tb (.ref C) = some false := by
      rcases Bool.or_eq_true_iff.mp hn with e | e
      · rw [beq_iff_eq.mp e] at q; simp at q
      · exact beq_iff_eq.mp e
    refine wpAny_bind ((looks_subIn X e).here ?_)
    simp only [Bool.false_eq_true, if_false]
    refine wpAny_bind (wpAny_mono one (fun r s' z => ?_) fun _ _ e => e)
    obtain ⟨v, rfl, hq⟩ := z
    exact wpAny_pure hq
  · refine wpAny_bind (wpAny_pure ?_)
    simp only [Bool.false_eq_true, if_false]
    refine wpAny_bind (wpAny_mono one (fun r s' z => ?_) fun _ _ e => e)
    obtain ⟨v, rfl, hq⟩ := z
    exact wpAny_pure hq
end
section
variable {X : Cx} {K : PySem.W.Frag} {n : Nat} {f : Addr} {fd : FuncData} {ps : List Str} {sp : Sp}
theorem eqO_run {A : Around} (F : FnOk X.prog X.w X.K X.mg X.base CX0 n f fd ps sp) (hb : Binds X.K fd ps []) {pins : List (Addr × Obj)} {σ : L2.St} {H : Hp} {s : Shared} {a b : Addr} {Q : VK} (hr : Room n A) (hA : A.frames = X.A.frames) (I : Inv X pins σ H s)
    (h : sp [.ref a, .ref b] H Q E0) : codeAny (model X.prog X.w) A (.call (.ref f) ⟨[.ref a, .ref b], []⟩) (fun r s' => match r with | .ok (.ret v) => EP X pins σ Q v s' | _ => False) s := by
  have e0 : Env0 X.prog X.w X.K X.mg X.base A X.stack s H := by
    have e := I.env0
    exact ⟨by rw [hA]; exact e.frames, e.mod, e.bs, e.bsz, e.funs, e.frf, e.hok, e.bare⟩
  have hl := F.len _ _ _ _ h
  have r2 : Vals [V.ref a, V.ref b] [Value.ref a, Value.ref b] := .cons rfl (.cons rfl .nil)
  refine codeAny_mono (F.run A X.stack s H ⟨[.ref a, .ref b], []⟩ [.ref a, .ref b] [.ref a, .ref b] _ E0 hr e0 (by
    have := hb s [.ref a, .ref b] I.kIn (by simpa using hl)
    simpa using this) r2 h) fun r s' hq => ?_
  cases r with
  | error e => exact hq.elim
  | ok fl =>
    cases fl with
    | ret w => exact I.after hq
    | next => exact False.elim hq
    | brk => exact False.elim hq
    | cont => exact False.elim hq
theorem op_eqO (F : FnOk X.prog X.w X.K X.mg X.base CX0 n f fd ps sp) (hb : Binds X.K fd ps []) (hr : Room n X.A) (hK : X.K = K := by rfl) : OpR X (compareOp .Eq) (rEqO false K f sp) := by
  cases hK
  intro pins s σ H x y v u Q I rx ry h
  obtain ⟨a, b, C, dx, fs, D, dy, gs, rfl, rfl, ha, hb', k, hs⟩ := h
  cases rx
  cases ry
  obtain ⟨mA, J, _⟩ := ins_get I.hok ha
  obtain ⟨mB, J', _⟩ := ins_get I.hok hb'
  obtain ⟨od, J, _⟩ := J.look
  obtain ⟨od', J', _⟩ := J'.look
  obtain ⟨m, hF⟩ := I.fr
  show wpAny (model X.prog X.w) X.A (richCompare .Eq (.ref a) (.ref b)) (EP X pins σ Q) X.xe s
  refine PySem.W.cmp_K (op := .Eq) (tb := .ref D) hr.units0 hF I.ok.mod.kin J J'.type k.nf k.eq k.fn ?_
  refine wpAny_call (codeAny_mono (eqO_run F hb hr rfl I hs) fun r s' hq => ?_)
  cases r with
  | error e => exact hq.elim
  | ok fl =>
    cases fl with
    | ret w =>
      obtain ⟨z, H', I', rz, r, ez, q⟩ := hq
      subst ez
      obtain rfl : w = Value.bool r := rz
      exact ⟨.bl r, H', I', rfl, q⟩
    | next => exact hq.elim
    | brk => exact hq.elim
    | cont => exact hq.elim
theorem op_neO (F : FnOk X.prog X.w X.K X.mg X.base CX0 n f fd ps sp) (hb : Binds X.K fd ps []) (hr : Room (n + 1) X.A) (hK : X.K = K := by rfl) : OpR X (compareOp .NotEq) (rEqO true K f sp) := by
  cases hK
  intro pins s σ H x y v u Q I rx ry h
  obtain ⟨a, b, C, dx, fs, D, dy, gs, rfl, rfl, ha, hb', k, hs⟩ := h
  cases rx
  cases ry
  obtain ⟨mA, J, _⟩ := ins_get I.hok ha
  obtain ⟨mB, J', _⟩ := ins_get I.hok hb'
  obtain ⟨od, J, _⟩ := J.look
  obtain ⟨od', J', _⟩ := J'.look
  show wpAny (model X.prog X.w) X.A (richCompare .NotEq (.ref a) (.ref b)) (EP X pins σ Q) X.xe s
  refine ne_run (tb := .ref D) (by have := hr.un; omega) I.kIn J J'.type k.nf k.ne k.eq k.fn k.ob ?_
  refine wpAny_call (codeAny_mono (eqO_run (A := X.A.in1) F hb hr.in1 rfl I hs) fun r s' hq => ?_)
  cases r with
  | error e => exact hq.elim
  | ok fl =>
    cases fl with
    | ret w =>
      obtain ⟨z, H', I', rz, r, ez, q⟩ := hq
      subst ez
      obtain rfl : w = Value.bool r := rz
      exact ⟨r, rfl, .bl (!r), H', I', rfl, q⟩
    | next => exact hq.elim
    | brk => exact hq.elim
    | cont => exact hq.elim
end
/-! ### comparisons in a row, however many -/
section
variable {X : Cx} {a b : Expr} {ta tb : TE} {op op' : CmpOp} {ops : List CmpOp} {b' : Expr} {bs : List Expr} {r : R2} {pos : Pos} {t : V → TE} {t2 : V → TT}
structure PCh (X : Cx) (ops : List CmpOp) (rs : List Expr) (t : V → TE) (t2 : V → TT) : Prop where
  run : ∀ (pos : Pos) (pins : List (Addr × Obj)) (s : Shared) (σ : L2.St) (H : Hp) (x : V) (v : Value) (Q : VK), Inv X pins σ H s → RelV x v → t x σ H Q →
    wpAny (model X.prog X.w) X.A (compareChain pos v ops (evalEach rs X.env)) (EP X pins σ Q) X.xe s
  tst : ∀ (pos : Pos) (pins : List (Addr × Obj)) (s : Shared) (σ : L2.St) (H : Hp) (x : V) (v : Value) (Q : Bool → Hp → Prop), Inv X pins σ H s → RelV x v → t2 x σ H Q →
    wpAny (model X.prog X.w) X.A (testChain pos v ops (evalEach rs X.env)) (TP X pins σ Q) X.xe s
def tChL (r : R2) (tb : TE) (x : V) : TE := fun σ H Q => tb σ H fun y H2 => r x y H2 Q
def tChL2 (r : R2) (tb : TE) (x : V) : TT := fun σ H Q => tb σ H fun y H2 => r x y H2 fun z H3 => ∃ k, z = .bl k ∧ Q k H3
def tChC (r : R2) (tb : TE) (t : V → TE) (x : V) : TE := fun σ H Q => tb σ H fun y H2 => r x y H2 fun z H3 => ∃ k, z = .bl k ∧ if k = true then t y σ H3 Q else Q (.bl false) H3
def tChC2 (r : R2) (tb : TE) (t : V → TT) (x : V) : TT := fun σ H Q => tb σ H fun y H2 => r x y H2 fun z H3 => ∃ k, z = .bl k ∧ if k = true then t y σ H3 Q else Q false H3
theorem pch_last (ho : OpR X (compareOp op) r) (hb : PE X b tb) : PCh X [op] [b] (tChL r tb) (tChL2 r tb) := by
  refine ⟨fun pos pins s σ H x v Q I rx h => ?_, fun pos pins s σ H x v Q I rx h => ?_⟩
  · exact chain_last (thn (hb.run pins s σ H _ I h) fun u s2 ⟨y, H2, I2, r2, q2⟩ => ho pins s2 σ H2 x y v u Q I2 rx r2 q2)
  · refine test_last (thn (hb.run pins s σ H _ I h) fun u s2 ⟨y, H2, I2, r2, q2⟩ => thn (ho pins s2 σ H2 x y v u _ I2 rx r2 q2) fun d s3 ⟨z, H3, I3, r3, k, e, q3⟩ => ?_)
    subst e
    cases r3
    exact wpAny_truthy_bool ⟨H3, I3, q3⟩
theorem pch_cons (ho : OpR X (compareOp op) r) (hb : PE X b tb) (hr : PCh X (op' :: ops) (b' :: bs) t t2) : PCh X (op :: op' :: ops) (b :: b' :: bs) (tChC r tb t) (tChC2 r tb t2) := by
  refine ⟨fun pos pins s σ H x v Q I rx h => ?_, fun pos pins s σ H x v Q I rx h => ?_⟩
  · refine chain_link (thn (hb.run pins s σ H _ I h) fun u s2 ⟨y, H2, I2, r2, q2⟩ => thn (ho pins s2 σ H2 x y v u _ I2 rx r2 q2) fun d s3 ⟨z, H3, I3, r3, k, e, q3⟩ => ?_)
    subst e
    cases r3
    refine wpAny_truthy_bool ?_
    cases k with
    | false => exact ⟨.bl false, H3, I3, rfl, q3⟩
    | true => exact hr.run pos pins s3 σ H3 y u Q I3 r2 q3
  · refine test_link (thn (hb.run pins s σ H _ I h) fun u s2 ⟨y, H2, I2, r2, q2⟩ => thn (ho pins s2 σ H2 x y v u _ I2 rx r2 q2) fun d s3 ⟨z, H3, I3, r3, k, e, q3⟩ => ?_)
    subst e
    cases r3
    refine wpAny_truthy_bool ?_
    cases k with
    | false => exact ⟨H3, I3, q3⟩
    | true => exact hr.tst pos pins s3 σ H3 y u Q I3 r2 q3
def tCh (ta : TE) (t : V → TE) : TE := fun σ H Q => ta σ H fun x H1 => t x σ H1 Q
def tCh2 (ta : TE) (t : V → TT) : TT := fun σ H Q => ta σ H fun x H1 => t x σ H1 Q
theorem pe_chN (ha : PE X a ta) (h : PCh X (op :: op' :: ops) (b :: b' :: bs) t t2) (hm : lastMarks (op :: op' :: ops) (b :: b' :: bs) = false := by with_unfolding_all rfl) : PE X (.Compare a (op :: op' :: ops) (b :: b' :: bs) pos) (tCh ta t) := by
  refine ⟨fun pins s σ H Q I q => ?_⟩
  exact Compare_chain (thn (ha.run pins s σ H _ I q) fun v s1 ⟨x, H1, I1, r1, q1⟩ => h.run pos pins s1 σ H1 x v Q I1 r1 q1) hm
theorem pt_chN (ha : PE X a ta) (h : PCh X (op :: op' :: ops) (b :: b' :: bs) t t2) (hm : lastMarks (op :: op' :: ops) (b :: b' :: bs) = false := by with_unfolding_all rfl) : PT X (.Compare a (op :: op' :: ops) (b :: b' :: bs) pos) (tCh2 ta t2) := by
  refine ⟨fun pins s σ H Q I q => ?_⟩
  exact isTrue_chain (thn (ha.run pins s σ H _ I q) fun v s1 ⟨x, H1, I1, r1, q1⟩ => h.tst pos pins s1 σ H1 x v Q I1 r1 q1) hm
end
end HP
/-! own classes: what a class must have; starred defs; fixed values; papers -/
namespace HC
open PySem PySem.Spec PyProof.Rows L2 HX
/-! ### a def with a starred parameter, by what the text must have -/
structure StarFun (K : PySem.W.Frag) (x qual : Str) (st : Stmt) (f : Addr) (ps : List Str) (pv : Str) : Prop where
  ex : ∃ (oc : Value) (od : Option Addr) (dV kV doc pm : Value) (an : Option Addr) (cdv ct : Value) (osl : Array (Option Value)),
    K.lookup f = some ⟨oc, od, .func (PySem.W.fnOf x qual (defArgs st) (defBody st) (defScope st) dV kV doc pm an cdv ct), osl⟩ ∧ PySem.W.codeIn K cdv qual = true ∧
    ∀ us rest : List Value, us.length = ps.length → bindArgs (PySem.W.fnOf x qual (defArgs st) (defBody st) (defScope st) dV kV doc pm an cdv ct) ⟨us ++ rest, []⟩ = (newTuple rest >>= fun t => pure (ps.zip us ++ [(pv, t)]))
def starS (ps : List Str) (sp : Sp) : Sp := fun vs H Q E => ∃ ws rest, vs = ws ++ rest ∧ ws.length = ps.length ∧ rest.length ≤ sizeLine ∧ ∀ p, H p = Option.none → sp (ws ++ [V.ref p]) (upd H p (.tup rest)) Q E
section
variable {P : Program} {w : World} {K : PySem.W.Frag} {mg : Str → Option Value} {base : Heap}
theorem star_ok {x qual : Str} {st : Stmt} {f : Addr} {N ps : List Str} {pv : Str} {k : Nat} {sp : Sp} (F : StarFun K x qual st f ps pv) (S : FnScope N (ps ++ [pv]) (defScope st))
    (hbody : ∀ (cdv : Value) (A : Around) (outer : List Env) (s : Shared) (H : Hp) (vs : List V) (Q : VK) (E : XK), Room k (A.deeper (envOfC qual (defScope st) s.heap.objs.size f cdv)) → sp vs H Q E →
      ∃ t, PSs (cxOf CX0 P w K mg base N qual (defScope st) f cdv A outer s H E).nox (defBody st) t ∧ t { nx := fun _ H' => Q .non H', rt := Q } (start N vs) H) : FnR P w K mg base CX0 (k + 1) f (starS ps sp) := by
  obtain ⟨oc, od, dV, kV, doc, pm, an, cdv, ct, osl, lk, hcd, hb⟩ := F.ex
  refine StX.fn_star lk hcd S (StX.cxUp_none) hb fun A outer s H vs Q E hr hsp => ?_
  obtain ⟨t, h, q⟩ := hbody cdv A outer s H vs Q E hr hsp
  exact ⟨t, h.nox, q⟩
theorem FnOk.nil {CX : CXT} {f : Addr} {fd : FuncData} {ps : List Str} {k : Nat} : FnOk P w K mg base CX k f fd ps (fun _ _ _ _ => False) :=
  ⟨fun _ _ _ _ z => z.elim, fun _ _ _ _ _ _ _ _ _ _ _ _ _ z => z.elim⟩
end
/-! ### rules that name the written part -/
section
variable {X : Cx} {K : PySem.W.Frag} {o e value tg l : Expr} {f : Str} {pos pos' : Pos} {ta tv tl te : TE}
theorem pe_fldK (he : PE X e ta) (hb : attributeBase e f X.env (eval e X.env) = eval e X.env := by rfl) (hK : X.K = K := by rfl) : PE X (.Attribute e f pos) (tFld K ta f) := by cases hK; exact pe_fld he hb
theorem ps_fldK (ha : PE X o ta) (hv : PE X value tv) (hs : swapsWith value (some (.Attribute o f pos')) pos.line X.env = pure false := by rfl) (hK : X.K = K := by rfl) : PS X (.Assign [.Attribute o f pos'] value pos) (sFld K ta tv f) := by cases hK; exact ps_fld ha hv hs
theorem pe_revK {k : Nat} {p1 p2 p3 : Pos} (he : PE X e te) (hK : X.K = K := by rfl) : PE X (.Subscript e (.Slice none none (some (.UnaryOp .USub (.Constant (.int 1) k p1) p2)) p3) pos) (tRevL K te) := by cases hK; exact pe_revL he
theorem call_isiTK (hK : X.K = K := by rfl) : CallR X (.builtin "isinstance") (rIsiT K) := by cases hK; exact call_isiT
theorem cr_sortedK (hK : X.K = K := by rfl) : CallR X (.builtin "sorted") (rSorted K) := by cases hK; exact cr_sorted
/-- for over a list or a tuple -/
def iSeq (K : PySem.W.Frag) (tl : TE) : TI := fun σ H R => iList K tl σ H R ∨ iTup K tl σ H R
theorem pi_seqK (hl : PE X l tl) (hK : X.K = K := by rfl) : PI X tg l (iSeq K tl) := by
  cases hK
  exact ⟨fun pins s σ H R I h => h.elim (fun z => (pi_list hl).run pins s σ H R I z) (fun z => (pi_tup hl).run pins s σ H R I z)⟩
end
/-! ### steps of a walk -/
section
variable {K : PySem.W.Frag} {σ : L2.St} {H : Hp} {Q : VK}
theorem fld_ {ta : TE} {f : Str} (h : ta σ H fun x H1 => ∃ a C dx fs v, x = .ref a ∧ H1 a = some (.ins C dx fs) ∧ Cls K C ∧ NoAttr K C f ∧ fs.lookup f = some v ∧ Q v H1) : tFld K ta f σ H Q := h
theorem fldE_ {a C dx : Addr} {fs : List (Str × V)} {v : V} {f : Str} {P : V → Prop} (e : H a = some (.ins C dx fs)) (c : Cls K C) (n : NoAttr K C f) (l : fs.lookup f = some v) (q : P v) :
    ∃ a' C dx fs v, V.ref a = .ref a' ∧ H a' = some (.ins C dx fs) ∧ Cls K C ∧ NoAttr K C f ∧ fs.lookup f = some v ∧ P v := ⟨a, C, dx, fs, v, rfl, e, c, n, l, q⟩
theorem setf_ {ta tv : TE} {f : Str} {nx bk ct : L2.St → Hp → Prop} {rt : VK} (h : tv σ H fun y H1 => ta σ H1 fun x H2 => ∃ a C dx fs, x = .ref a ∧ H2 a = some (.ins C dx fs) ∧ Cls K C ∧ NoAttr K C f ∧ fs.length < 1000 ∧ nx σ (upd H2 a (.ins C dx (putF f y fs)))) : sFld K ta tv f ⟨nx, rt, bk, ct⟩ σ H := h
theorem setE_ {a C dx : Addr} {fs : List (Str × V)} {f : Str} {y : V} {R : Hp → Prop} (e : H a = some (.ins C dx fs)) (c : Cls K C) (n : NoAttr K C f) (l : Nat.ble fs.length 900 = true) (q : R (upd H a (.ins C dx (putF f y fs)))) :
    ∃ a' C dx fs, V.ref a = .ref a' ∧ H a' = some (.ins C dx fs) ∧ Cls K C ∧ NoAttr K C f ∧ fs.length < 1000 ∧ R (upd H a' (.ins C dx (putF f y fs))) := ⟨a, C, dx, fs, rfl, e, c, n, by have := Nat.le_of_ble_eq_true l; omega, q⟩
theorem rev_ {te : TE} (h : te σ H fun x H1 => ∃ a xs, x = .ref a ∧ SqL K H1 a xs ∧ ∀ p, H1 p = none → Q (.ref p) (upd H1 p (.lst xs.reverse))) : tRevL K te σ H Q := h
theorem isiT_ {x : V} {tp : Addr} {cs : List V} {t : Value} {us : List Value} {b : Bool} (e : H tp = some (.tup cs)) (p : Paired ClsV cs us) (ty : TyX K H x t) (k : PySem.W.kitAny K t us = some b) (q : Q (.bl b) H) : rIsiT K [x, .ref tp] H Q := ⟨x, tp, cs, t, us, b, rfl, e, p, ty, k, q⟩
theorem cls_ {ta : TE} (h : ta σ H fun x H1 => ∃ a C dx fs, x = .ref a ∧ H1 a = some (.ins C dx fs) ∧ HP.HasCls K C ∧ Q (.ref C) H1) : HP.tClass K ta σ H Q := h
theorem name_ {ta : TE} (h : ta σ H fun x H1 => ∃ C nm, x = .ref C ∧ HP.ClsNm K C nm ∧ Q (.str nm) H1) : HP.tName K ta σ H Q := h
end
theorem make_ {C : Addr} {sp : Sp} {E : XK} {t : TA} {σ : L2.St} {H : Hp} {Q : VK} (h : t σ H fun vs H1 => ∀ x dx, H1 x = Option.none → H1 dx = Option.none → dx ≠ x → sp (V.ref x :: vs) (upd (upd H1 dx (.own x)) x (.ins C dx [])) (fun v H2 => v = .non ∧ Q (.ref x) H2) E) : StX.tMakeR C sp E t σ H Q := h
/-- i if c else j -/
theorem joinB_ {c : Bool} {i j : Int} {σ : L2.St} {H : Hp} {Q : VK} (h : ∀ e : Int, (c = true ∧ e = i ∨ c = false ∧ e = j) → Q (.int e) H) : if c = true then tC (.int i) σ H Q else tC (.int j) σ H Q := by
  cases c with
  | true => exact h i (.inl ⟨rfl, rfl⟩)
  | false => exact h j (.inr ⟨rfl, rfl⟩)
/-- i if c else -j -/
theorem joinN_ {c : Bool} {i j : Int} {σ : L2.St} {H : Hp} {Q : VK} (h : ∀ e : Int, (c = true ∧ e = i ∨ c = false ∧ e = -j) → Q (.int e) H) : if c = true then tC (.int i) σ H Q else tUn (rU fun i => V.int (-i)) (tC (.int j)) σ H Q := by
  cases c with
  | true => exact h i (.inl ⟨rfl, rfl⟩)
  | false => exact ⟨j, rfl, h (-j) (.inr ⟨rfl, rfl⟩)⟩
def rBool1 : List V → Hp → VK → Prop := fun xs H Q => (∃ i, xs = [.int i] ∧ Q (.bl (i != 0)) H) ∨ ∃ k, xs = [.bl k] ∧ Q (.bl k) H
theorem call_boolU {X : Cx} : CallR X (.type "bool") rBool1 := call_bool1
theorem bool_bl_ {b : Bool} {H : Hp} {Q : VK} (q : Q (.bl b) H) : rBool1 [.bl b] H Q := .inr ⟨b, rfl, q⟩
theorem clsE_ {a C dx : Addr} {fs : List (Str × V)} {H : Hp} {K : PySem.W.Frag} {P : Addr → Prop} (e : H a = some (.ins C dx fs)) (c : HP.HasCls K C) (q : P C) : ∃ a' C dx fs, V.ref a = .ref a' ∧ H a' = some (.ins C dx fs) ∧ HP.HasCls K C ∧ P C := ⟨a, C, dx, fs, rfl, e, c, q⟩
theorem nameE_ {C : Addr} {nm : Str} {K : PySem.W.Frag} {P : Str → Prop} (c : HP.ClsNm K C nm) (q : P nm) : ∃ C' nm, V.ref C = .ref C' ∧ HP.ClsNm K C' nm ∧ P nm := ⟨C, nm, rfl, c, q⟩
theorem eqd_ {x y : V} {d e : PyData} {H : Hp} {K : PySem.W.Frag} {Q : VK} (h1 : Dp K H x d) (h2 : Dp K H y e) (s1 : SeqAt.shaped d = true) (s2 : SeqAt.shaped e = true) (q : Q (.bl (PyData.eqv d e)) H) : rEqU K x y H Q := .inr ⟨d, e, h1, h2, s1, s2, q⟩
theorem ned_ {x y : V} {d e : PyData} {H : Hp} {K : PySem.W.Frag} {Q : VK} (h1 : Dp K H x d) (h2 : Dp K H y e) (s1 : SeqAt.shaped d = true) (s2 : SeqAt.shaped e = true) (q : Q (.bl (!PyData.eqv d e)) H) : rNeU K x y H Q := .inr ⟨d, e, h1, h2, s1, s2, q⟩
/-! ### the answer of isinstance for two classes of a tuple -/
theorem kitAny_two {K : PySem.W.Frag} {t c d : Value} {a b : Bool} (h1 : PySem.W.kitOne K t c = some a) (h2 : PySem.W.kitOne K t d = some b) : PySem.W.kitAny K t [c, d] = some (a || b) := by
  unfold PySem.W.kitAny
  rw [h1]
  cases a with
  | true => rfl
  | false =>
    show PySem.W.kitAny K t [d] = _
    unfold PySem.W.kitAny
    rw [h2]
    cases b <;> rfl
/-! ### fixed values -/
/-- values nested at most n deep, none too long, no dicts -/
def okP : Nat → PyData → Bool
  | 0, .list _ => false
  | 0, .tuple _ => false
  | _, .dict _ => false
  | n + 1, .list xs => Nat.ble xs.length 100000 && xs.all (okP n)
  | n + 1, .tuple xs => Nat.ble xs.length 100000 && xs.all (okP n)
  | _, _ => true
/-- a tuple for each list, n deep -/
def fixP : Nat → PyData → PyData
  | n + 1, .list xs => .tuple (xs.map (fixP n))
  | n + 1, .tuple xs => .tuple (xs.map (fixP n))
  | _, d => d
theorem same_sql {K : PySem.W.Frag} {H H' : Hp} {c : Addr} {xs : List V} (x : Same H H') (h : SqL K H c xs) : SqL K H' c xs := by
  rcases h with (h | ⟨o, h⟩) | h
  · exact .inl (.inl (x _ _ h))
  · exact .inl (.inr ⟨o, x _ _ h⟩)
  · exact .inr h
mutual
theorem dp_same {K : PySem.W.Frag} {H H' : Hp} (e : Same H H') : ∀ {v : V} {d : PyData}, Dp K H v d → Dp K H' v d
  | _, _, .non => .non
  | _, _, .bl b => .bl b
  | _, _, .int i => .int i
  | _, _, .str x => .str x
  | _, _, .lst s a => .lst (same_sql e s) (dpAll_same e a)
  | _, _, .tup s a => .tup (HX.same_sqt e s) (dpAll_same e a)
theorem dpAll_same {K : PySem.W.Frag} {H H' : Hp} (e : Same H H') : ∀ {vs : List V} {ds : List PyData}, DpAll K H vs ds → DpAll K H' vs ds
  | _, _, .nil => .nil
  | _, _, .cons a b => .cons (dp_same e a) (dpAll_same e b)
end
theorem dpAll_len {K : PySem.W.Frag} {H : Hp} : ∀ {vs : List V} {ds : List PyData}, DpAll K H vs ds → vs.length = ds.length
  | _, _, .nil => rfl
  | _, _, .cons _ b => by rw [List.length_cons, List.length_cons, dpAll_len b]
theorem dpAll_at {K : PySem.W.Frag} {H : Hp} : ∀ {vs : List V} {ds : List PyData}, DpAll K H vs ds → ∀ {i : Nat} {v : V}, vs[i]? = some v → ∃ d, ds[i]? = some d ∧ Dp K H v d
  | _, _, .cons a _, 0, _, h => by cases h; exact ⟨_, rfl, a⟩
  | _, _, .cons _ b, i + 1, _, h => dpAll_at b (i := i) h
theorem dpAll_snoc {K : PySem.W.Frag} {H : Hp} : ∀ {vs : List V} {ds : List PyData} {v : V} {d : PyData}, DpAll K H vs ds → Dp K H v d → DpAll K H (vs ++ [v]) (ds ++ [d])
  | _, _, _, _, .nil, h => .cons h .nil
  | _, _, _, _, .cons a b, h => .cons a (dpAll_snoc b h)
theorem dpAll_ints {K : PySem.W.Frag} {H : Hp} (ns : List Int) : DpAll K H (ns.map V.int) (ns.map PyData.int) := by
  induction ns with
  | nil => exact .nil
  | cons n r ih => exact .cons (.int n) ih
mutual
/-- a value without lists -/
inductive Dt (K : PySem.W.Frag) (H : Hp) : V → PyData → Prop
  | non : Dt K H .non .none
  | bl (b : Bool) : Dt K H (.bl b) (.bool b)
  | int (i : Int) : Dt K H (.int i) (.int i)
  | str (x : Str) : Dt K H (.str x) (.str x)
  | tup {a : Addr} {xs : List V} {ds : List PyData} : SqT K H a xs → DtAll K H xs ds → Dt K H (.ref a) (.tuple ds)
inductive DtAll (K : PySem.W.Frag) (H : Hp) : List V → List PyData → Prop
  | nil : DtAll K H [] []
  | cons {v : V} {vs : List V} {d : PyData} {ds : List PyData} : Dt K H v d → DtAll K H vs ds → DtAll K H (v :: vs) (d :: ds)
end
mutual
theorem Dt.dp {K : PySem.W.Frag} {H : Hp} : ∀ {v : V} {d : PyData}, Dt K H v d → Dp K H v d
  | _, _, .non => .non
  | _, _, .bl b => .bl b
  | _, _, .int i => .int i
  | _, _, .str x => .str x
  | _, _, .tup s a => .tup s (DtAll.dp a)
theorem DtAll.dp {K : PySem.W.Frag} {H : Hp} : ∀ {vs : List V} {ds : List PyData}, DtAll K H vs ds → DpAll K H vs ds
  | _, _, .nil => .nil
  | _, _, .cons a b => .cons (Dt.dp a) (DtAll.dp b)
end
mutual
theorem dt_same {K : PySem.W.Frag} {H H' : Hp} (e : Same H H') : ∀ {v : V} {d : PyData}, Dt K H v d → Dt K H' v d
  | _, _, .non => .non
  | _, _, .bl b => .bl b
  | _, _, .int i => .int i
  | _, _, .str x => .str x
  | _, _, .tup s a => .tup (HX.same_sqt e s) (dtAll_same e a)
theorem dtAll_same {K : PySem.W.Frag} {H H' : Hp} (e : Same H H') : ∀ {vs : List V} {ds : List PyData}, DtAll K H vs ds → DtAll K H' vs ds
  | _, _, .nil => .nil
  | _, _, .cons a b => .cons (dt_same e a) (dtAll_same e b)
end
/-- nothing but tuples: what no tuple is may change -/
def NoTup (H : Hp) (D : Addr) : Prop := ∀ xs, ¬ Rd H D (.tup xs)
theorem noTup_lst {H : Hp} {D : Addr} {xs : List V} (h : H D = some (.lst xs)) : NoTup H D := fun ys z => by
  rcases z with z | ⟨o, z⟩ <;> rw [h] at z <;> cases z
theorem noTup_ins {H : Hp} {D C dx : Addr} {fs : List (Str × V)} (h : H D = some (.ins C dx fs)) : NoTup H D := fun ys z => by
  rcases z with z | ⟨o, z⟩ <;> rw [h] at z <;> cases z
theorem noTup_none {H : Hp} {D : Addr} (h : H D = none) : NoTup H D := fun ys z => by
  rcases z with z | ⟨o, z⟩ <;> rw [h] at z <;> cases z
theorem sqt_upd {K : PySem.W.Frag} {H : Hp} {D a : Addr} {o : HO} {xs : List V} (n : NoTup H D) (h : SqT K H a xs) : SqT K (upd H D o) a xs := by
  rcases h with h | h
  · have na : a ≠ D := fun e => n xs (e ▸ h)
    refine .inl ?_
    rcases h with h | ⟨u, h⟩
    · exact .inl (by rw [upd_ne na]; exact h)
    · exact .inr ⟨u, by rw [upd_ne na]; exact h⟩
  · exact .inr h
mutual
theorem dt_upd {K : PySem.W.Frag} {H : Hp} {D : Addr} {o : HO} (n : NoTup H D) : ∀ {v : V} {d : PyData}, Dt K H v d → Dt K (upd H D o) v d
  | _, _, .non => .non
  | _, _, .bl b => .bl b
  | _, _, .int i => .int i
  | _, _, .str x => .str x
  | _, _, .tup s a => .tup (sqt_upd n s) (dtAll_upd n a)
theorem dtAll_upd {K : PySem.W.Frag} {H : Hp} {D : Addr} {o : HO} (n : NoTup H D) : ∀ {vs : List V} {ds : List PyData}, DtAll K H vs ds → DtAll K (upd H D o) vs ds
  | _, _, .nil => .nil
  | _, _, .cons a b => .cons (dt_upd n a) (dtAll_upd n b)
end
theorem dtAll_snoc {K : PySem.W.Frag} {H : Hp} : ∀ {vs : List V} {ds : List PyData} {v : V} {d : PyData}, DtAll K H vs ds → Dt K H v d → DtAll K H (vs ++ [v]) (ds ++ [d])
  | _, _, _, _, .nil, h => .cons h .nil
  | _, _, _, _, .cons a b, h => .cons a (dtAll_snoc b h)
theorem dtAll_ints {K : PySem.W.Frag} {H : Hp} (ns : List Int) : DtAll K H (ns.map V.int) (ns.map PyData.int) := by
  induction ns with
  | nil => exact .nil
  | cons n r ih => exact .cons (.int n) ih
/-- neither a list nor a tuple stands there -/
def NoSq (H : Hp) (D : Addr) : Prop := (∀ xs, ¬ Rd H D (.tup xs)) ∧ ∀ xs, ¬ Rd H D (.lst xs)
theorem noSq_ins {H : Hp} {D C dx : Addr} {fs : List (Str × V)} (h : H D = some (.ins C dx fs)) : NoSq H D :=
  ⟨noTup_ins h, fun ys (z : Rd H D (.lst ys)) => by
    rcases z with z | ⟨o, z⟩ <;> rw [h] at z <;> cases z⟩
theorem sql_upd {K : PySem.W.Frag} {H : Hp} {D a : Addr} {o : HO} {xs : List V} (n : NoSq H D) (h : SqL K H a xs) : SqL K (upd H D o) a xs := by
  rcases h with h | h
  · have na : a ≠ D := fun e => n.2 xs (e ▸ h)
    refine .inl ?_
    rcases h with h | ⟨u, h⟩
    · exact .inl (by rw [upd_ne na]; exact h)
    · exact .inr ⟨u, by rw [upd_ne na]; exact h⟩
  · exact .inr h
mutual
theorem dp_upd {K : PySem.W.Frag} {H : Hp} {D : Addr} {o : HO} (n : NoSq H D) : ∀ {v : V} {d : PyData}, Dp K H v d → Dp K (upd H D o) v d
  | _, _, .non => .non
  | _, _, .bl b => .bl b
  | _, _, .int i => .int i
  | _, _, .str x => .str x
  | _, _, .lst s a => .lst (sql_upd n s) (dpAll_upd n a)
  | _, _, .tup s a => .tup (sqt_upd n.1 s) (dpAll_upd n a)
theorem dpAll_upd {K : PySem.W.Frag} {H : Hp} {D : Addr} {o : HO} (n : NoSq H D) : ∀ {vs : List V} {ds : List PyData}, DpAll K H vs ds → DpAll K (upd H D o) vs ds
  | _, _, .nil => .nil
  | _, _, .cons a b => .cons (dp_upd n a) (dpAll_upd n b)
end
/-- a comprehension over values, each made without lists by f -/
theorem lcD {K : PySem.W.Frag} {te : TE} {vs : List Nat} {σ : L2.St} {D a : Addr} {j : Nat} {H1 : Hp} {Qd : Hp → Prop} {xs : List V} {ds : List PyData} {J : It} (f : PyData → PyData) (hJ : (J = Itl K a ∧ SqL K H1 a xs) ∨ (J = Itt K a ∧ SqT K H1 a xs))
    (hA : DpAll K H1 xs ds) (hn : H1 D = none) (hl : Nat.ble xs.length 100000 = true) (hw : ∀ x, wipe ((wipe σ vs).set j (some x)) vs = wipe σ vs)
    (hs : ∀ (i : Nat) x d H' R, xs[i]? = some x → ds[i]? = some d → Dp K H' x d → (∀ y H4, Same H' H4 → Dt K H4 y (f d) → R y H4) → te ((wipe σ vs).set j (some x)) H' R)
    (hd : ∀ ys H', Same H1 H' → DtAll K H' ys (ds.map f) → H' D = some (.lst ys) → Qd H') : LcG J (gName j) tYes te vs σ D H1 Qd := by
  have hl2 := Nat.le_of_ble_eq_true hl
  have hln := dpAll_len hA
  have go : ∀ (i : Nat) x ys H, xs[i]? = some x → i < xs.length → ys.length = i → (Same H1 H ∧ DtAll K H ys ((ds.take i).map f)) → H D = some (.lst ys) → te ((wipe σ vs).set j (some x)) H (HX.LcK (fun i ys H => Same H1 H ∧ DtAll K H ys ((ds.take i).map f)) xs.length D i) := fun i x ys H hx hi hy ⟨e, a⟩ hD => by
    obtain ⟨d, hd1, hd2⟩ := dpAll_at (dpAll_same e hA) hx
    refine hs i x d H _ hx hd1 hd2 fun y H4 e4 hy4 => ?_
    have hD4 := e4 _ _ hD
    refine HX.lcK_ hD4 hy hi (by omega) ⟨HX.same_upd (e.trans e4) hn, ?_⟩
    have z := dtAll_snoc (dtAll_upd (o := .lst (ys ++ [y])) (noTup_lst hD4) (dtAll_same e4 a)) (dt_upd (o := .lst (ys ++ [y])) (noTup_lst hD4) hy4)
    have hi2 : i < ds.length := by omega
    have hg : ds[i]'hi2 = d := (List.getElem?_eq_some_iff.mp hd1).2
    rw [List.take_add_one, hd1, List.map_append]
    exact z
  rcases hJ with ⟨rfl, hS⟩ | ⟨rfl, hS⟩
  · refine HX.lcL (xs := xs) (fun i ys H => Same H1 H ∧ DtAll K H ys ((ds.take i).map f)) hw ⟨HX.same_new hn, .nil⟩ (fun i ys H p => same_sql p.1 hS) go fun ys H hy p hD => ?_
    refine hd ys H p.1 ?_ hD
    have z := p.2
    rw [hln, List.take_length] at z
    exact z
  · refine HX.lcT (xs := xs) (fun i ys H => Same H1 H ∧ DtAll K H ys ((ds.take i).map f)) hw ⟨HX.same_new hn, .nil⟩ (fun i ys H p => HX.same_sqt p.1 hS) go fun ys H hy p hD => ?_
    refine hd ys H p.1 ?_ hD
    have z := p.2
    rw [hln, List.take_length] at z
    exact z
/-- is it a list or a tuple -/
def isSeq : PyData → Bool
  | .list _ => true
  | .tuple _ => true
  | _ => false
theorem isLT {K : PySem.W.Frag} {H : Hp} {v : V} {d : PyData} (h : Dp K H v d) : ∃ t, TyX K H v t ∧ PySem.W.kitAny K t [.type "list", .type "tuple"] = some (isSeq d) := by
  cases h with
  | non => exact ⟨_, .base .non, kitAny_two (a := false) (b := false) (kit_ty (by decide +kernel)) (kit_ty (by decide +kernel))⟩
  | bl b => exact ⟨_, .base (.bl _), kitAny_two (a := false) (b := false) (kit_ty (by decide +kernel)) (kit_ty (by decide +kernel))⟩
  | int b => exact ⟨_, .base (.int _), kitAny_two (a := false) (b := false) (kit_ty (by decide +kernel)) (kit_ty (by decide +kernel))⟩
  | str b => exact ⟨_, .base (.str _), kitAny_two (a := false) (b := false) (kit_ty (by decide +kernel)) (kit_ty (by decide +kernel))⟩
  | lst s _ =>
    refine ⟨.type "list", ?_, kitAny_two (a := true) (b := false) (kit_ty (by decide +kernel)) (kit_ty (by decide +kernel))⟩
    rcases s with (s | ⟨o, s⟩) | ⟨o, its, n, e, c, _⟩
    · exact .base (.lst s)
    · exact .base (.frz s)
    · exact .kList e c
  | tup s _ =>
    refine ⟨.type "tuple", ?_, kitAny_two (a := false) (b := true) (kit_ty (by decide +kernel)) (kit_ty (by decide +kernel))⟩
    rcases s with (s | ⟨o, s⟩) | ⟨o, its, n, e, c, _⟩
    · exact .base (.tup s)
    · exact .fTuple s
    · exact .kTuple e c
theorem okP_list {n : Nat} {xs : List PyData} (h : okP n (.list xs) = true) : ∃ m, n = m + 1 ∧ Nat.ble xs.length 100000 = true ∧ ∀ x ∈ xs, okP m x = true := by
  cases n with
  | zero => simp [okP] at h
  | succ m => rw [okP, Bool.and_eq_true, List.all_eq_true] at h; exact ⟨m, rfl, h.1, h.2⟩
theorem okP_tuple {n : Nat} {xs : List PyData} (h : okP n (.tuple xs) = true) : ∃ m, n = m + 1 ∧ Nat.ble xs.length 100000 = true ∧ ∀ x ∈ xs, okP m x = true := by
  cases n with
  | zero => simp [okP] at h
  | succ m => rw [okP, Bool.and_eq_true, List.all_eq_true] at h; exact ⟨m, rfl, h.1, h.2⟩
theorem dt_leaf {K : PySem.W.Frag} {H : Hp} {v : V} {d : PyData} {n : Nat} (h : Dp K H v d) (l : isSeq d = false) : Dt K H v (fixP n d) := by
  cases h with
  | non => cases n <;> exact .non
  | bl b => cases n <;> exact .bl b
  | int b => cases n <;> exact .int b
  | str b => cases n <;> exact .str b
  | lst s _ => cases l
  | tup s _ => cases l
/-! ### papers -/
structure PC (K : PySem.W.Frag) (CP C : Addr) (nm : Str) : Prop where
  cl : Cls K C
  hc : HP.HasCls K C
  nm : HP.ClsNm K C nm
  word : NoAttr K C "word"
  parts : NoAttr K C "parts"
  isP : PySem.W.kitOne K (.ref C) (.ref CP) = some true
theorem PC.ty {K : PySem.W.Frag} {CP C : Addr} {nm : Str} (p : PC K CP C nm) {H : Hp} {a dx : Addr} {fs : List (Str × V)} (e : H a = some (.ins C dx fs)) : TyX K H (.ref a) (.ref C) :=
  .base (.ins e p.cl p.hc.at_ p.hc.sp p.hc.tk p.hc.ob)
/-- at a stands a paper of class C with its word, its parts and further fields -/
def Pap (K : PySem.W.Frag) (H : Hp) (a C : Addr) (w : Str) (d : PyData) (ex : List (Str × V)) : Prop := ∃ dx t, H a = some (.ins C dx (("word", .str w) :: ("parts", t) :: ex)) ∧ Dt K H t d
theorem Pap.same {K : PySem.W.Frag} {H H' : Hp} {a C : Addr} {w : Str} {d : PyData} {ex : List (Str × V)} (h : Pap K H a C w d ex) (e : Same H H') : Pap K H' a C w d ex := by
  obtain ⟨dx, t, h1, h2⟩ := h
  exact ⟨dx, t, e _ _ h1, dt_same e h2⟩
/-- what was made at a free place changes nothing else -/
theorem made {H H' : Hp} {x dx : Addr} {o o' : HO} (hx : H x = none) (hd : H dx = none) (k : Kept x (upd (upd H dx o) x o') H') : Same H H' := fun b u hb => by
  have n1 : b ≠ x := fun z => by rw [z, hx] at hb; cases hb
  have n2 : b ≠ dx := fun z => by rw [z, hd] at hb; cases hb
  exact k b u n1 (by rw [upd_ne n1, upd_ne n2]; exact hb)
theorem putF_word {w : V} : putF "word" w [] = [(("word" : Str), w)] := rfl
theorem putF_parts {w t : V} : putF "parts" t [(("word" : Str), w)] = [(("word" : Str), w), (("parts" : Str), t)] := by
  unfold putF
  rw [if_neg (by decide)]
  rfl
theorem putF_third {f : Str} {w t u : V} (h : ("word" : Str) ≠ f) (h2 : ("parts" : Str) ≠ f) : putF f u [(("word" : Str), w), (("parts" : Str), t)] = [(("word" : Str), w), (("parts" : Str), t), (f, u)] := by
  unfold putF
  rw [if_neg h]
  unfold putF
  rw [if_neg h2]
  rfl
theorem lk_word {w : V} {r : List (Str × V)} : List.lookup ("word" : Str) ((("word" : Str), w) :: r) = some w := rfl
theorem lk_parts {w t : V} {r : List (Str × V)} : List.lookup ("parts" : Str) ((("word" : Str), w) :: (("parts" : Str), t) :: r) = some t := by
  rw [List.lookup_cons, show (("parts" : Str) == ("word" : Str)) = false by decide]; rfl
theorem lk_third {f : Str} {w t u : V} {r : List (Str × V)} (h : (f == ("word" : Str)) = false) (h2 : (f == ("parts" : Str)) = false) : List.lookup f ((("word" : Str), w) :: (("parts" : Str), t) :: (f, u) :: r) = some u := by
  rw [List.lookup_cons, h, List.lookup_cons, h2, List.lookup_cons, beq_self_eq_true]
/-- a new instance, filled, is a thing that was not there -/
theorem Pap.upd {K : PySem.W.Frag} {H : Hp} {a C : Addr} {w : Str} {d : PyData} {ex : List (Str × V)} {D : Addr} {o : HO} (h : Pap K H a C w d ex) (n : a ≠ D) (nt : NoTup H D) : Pap K (L2.upd H D o) a C w d ex := by
  obtain ⟨dx, t, h1, h2⟩ := h
  exact ⟨dx, t, by rw [upd_ne n]; exact h1, dt_upd nt h2⟩
end HC
/-! the truth of an instance by an own __bool__ -/
namespace HB
open PySem PySem.Spec PyProof.Rows L2 HX
structure BoolCls (K : PySem.W.Frag) (C f : Addr) : Prop where
  at_ : PySem.W.findIn K (.ref C) "__bool__" = some (some (.ref f))
  fn : PySem.W.isFn K (.ref f) = true
def rTruO (K : PySem.W.Frag) (g : Addr → Option (Addr × Bool)) : V → Hp → (Bool → Hp → Prop) → Prop := fun x H Q => ∃ a C dx fs f b, x = .ref a ∧ H a = some (.ins C dx fs) ∧ g C = some (f, b) ∧ BoolCls K C f ∧ Q b H
/-- __bool__ tells b, whatever stands there -/
def spB (b : Bool) : Sp := fun vs H Q _ => ∃ a, vs = [.ref a] ∧ Q (.bl b) H
section
variable {X : Cx} {K : PySem.W.Frag} {n : Nat} {f : Addr} {fd : FuncData} {ps : List Str} {b : Bool}
def rTruB (K : PySem.W.Frag) (f : Addr) (b : Bool) : V → Hp → (Bool → Hp → Prop) → Prop := fun x H Q => ∃ a C dx fs, x = .ref a ∧ H a = some (.ins C dx fs) ∧ BoolCls K C f ∧ Q b H
theorem tru_own (F : FnOk X.prog X.w X.K X.mg X.base CX0 n f fd ps (spB b)) (hb : Binds X.K fd ps []) (hr : Room n X.A) (hK : X.K = K := by rfl) : TruR X (rTruB K f b) := by
  cases hK
  intro pins s σ H x v Q I rx h
  obtain ⟨a, C, dx, fs, rfl, ha, k, q⟩ := h
  cases rx
  obtain ⟨mA, J, _⟩ := ins_get I.hok ha
  obtain ⟨od, J, _⟩ := J.look
  obtain ⟨m, hF⟩ := I.fr
  refine PySem.W.truthy_K hF I.ok.mod.kin J k.at_ k.fn ?_
  have hl : 1 = ps.length := F.len [.ref a] H (fun _ _ => True) E0 ⟨a, rfl, True.intro⟩
  have r2 : Vals [V.ref a] [Value.ref a] := .cons rfl .nil
  refine wpAny_call (codeAny_mono (F.run X.A X.stack s H ⟨[.ref a], []⟩ [.ref a] [.ref a] (fun v H' => v = .bl b ∧ Q b H') E0 hr I.env0 (by
    have := hb s [.ref a] I.kIn (by simpa using hl)
    simpa using this) r2 ⟨a, rfl, rfl, q⟩) fun r s' hq => ?_)
  cases r with
  | error e => exact hq.elim
  | ok fl =>
    cases fl with
    | ret w =>
      obtain ⟨v, H', I', rv, ev, qq⟩ := I.after hq
      subst ev
      obtain rfl : w = Value.bool b := rv
      exact ⟨H', I', qq⟩
    | next => exact hq.elim
    | brk => exact hq.elim
    | cont => exact hq.elim
theorem TruR.or {r r' : V → Hp → (Bool → Hp → Prop) → Prop} (h : TruR X r) (h' : TruR X r') : TruR X (fun x H Q => r x H Q ∨ r' x H Q) := fun pins s σ H x v Q I rx q => q.elim (h pins s σ H x v Q I rx) (h' pins s σ H x v Q I rx)
end
/-! ### a call by names alone -/
section
variable {X : Cx} {CX : CXT} {k : Nat} {f : Addr} {fd : FuncData} {ps ks : List Str} {sp : Sp} {E : XK} {x : Str} {kws : List Keyword} {tk : TA} {p pos : Pos} {g : List Value → List Value → List Value} {gV : List V → List V → List V}
def tCallN0 (sp : Sp) (gV : List V → List V → List V) (E : XK) (tk : TA) : TE := fun σ H Q => tk σ H fun zs H2 => sp (gV [] zs) H2 Q E
theorem pe_callK0 (F : FnOk X.prog X.w X.K X.mg X.base CX k f fd ps sp) (hr : Room k X.A) (hg : Gl X x) (hm : X.mg x = some (.ref f)) (hk : PySem.W.keepIn X.K (.ref f) = true) (hb : KBinds X.K fd ps ks g gV) (hx : Passes CX X E) (hkw : PK X kws tk)
    (hall : (backToKw pos (keywordEach kws X.env)).all (·.1.isSome) = true := by rfl) (hks : (backToKw pos (keywordEach kws X.env)).filterMap (·.1) = ks := by rfl) (hdb : (x == ("__debug__" : Str)) = false := by decide)
    (hpl : ((backTo pos (starEach [] X.env)).any (·.1) || (backToKw pos (keywordEach kws X.env)).any (·.1.isNone)) = false := by rfl) :
    PE X (.Call (.Name x p) [] kws pos) (tCallN0 sp gV E tk) := by
  refine ⟨fun pins s σ H Q I h => ?_⟩
  refine wpAny_Call_Name_kw (ld_glob I hg hm ?_ hdb)
  refine PySem.W.callWith_KW0 (h₀ := X.base) I.ok.mod.kin hk hall ?_ hpl
  refine thn (hkw.run pos pins s σ H _ I h) fun ws s2 ⟨zs, H2, I2, rz, q2⟩ => ⟨I2.kIn, ?_⟩
  rw [hks]
  exact run_fnk (us := []) (vs := []) F hr hb hx I2 .nil rz q2
end
/-- names for four parameters, in any order, no positions -/
def perm (idx : List Nat) {α : Type} (d : α) (us ws : List α) : List α := if us.length = 0 ∧ ws.length = idx.length then idx.map fun i => ws.getD i d else []
theorem kb_mk {K : PySem.W.Frag} {fd : FuncData} {ps ks : List Str} {idx : List Nat} (hp : (ps.length == 0) = false) (h : ∀ ws : List Value, ws.length = idx.length → bindArgs fd ⟨[], ks.zip ws⟩ = pure (ps.zip (idx.map fun i => ws.getD i .none)))
    (hr : ∀ {vs zs : List V} {us ws : List Value}, Vals vs us → Vals zs ws → Vals (perm idx .non vs zs) (perm idx .none us ws)) : KBinds K fd ps ks (perm idx .none) (perm idx .non) := by
  refine ⟨fun s us ws _ hl => ?_, hr⟩
  unfold perm at hl ⊢
  by_cases z : us.length = 0 ∧ ws.length = idx.length
  · rw [if_pos z]
    obtain rfl : us = [] := List.length_eq_zero_iff.mp z.1
    exact .of_eq (h ws z.2)
  · rw [if_neg z] at hl
    have : ps.length = 0 := hl.symm
    rw [this] at hp
    cases hp
theorem getD_rel {vs : List V} {us : List Value} (r : Vals vs us) : ∀ i, RelV (vs.getD i .non) (us.getD i .none) := by
  intro i
  induction r generalizing i with
  | nil => exact rfl
  | cons h t ih =>
    cases i with
    | zero => exact h
    | succ i => exact ih i
theorem perm_rel {idx : List Nat} {vs zs : List V} {us ws : List Value} (r : Vals vs us) (rz : Vals zs ws) : Vals (perm idx .non vs zs) (perm idx .none us ws) := by
  unfold perm
  rw [r.length, rz.length]
  by_cases h : us.length = 0 ∧ ws.length = idx.length
  · rw [if_pos h, if_pos h]
    clear h
    induction idx with
    | nil => exact .nil
    | cons i t ih => exact .cons (getD_rel rz i) ih
  · rw [if_neg h, if_neg h]
    exact .nil
/-! ### lists of ints compared -/
theorem eqvAll_ints : ∀ ns ms : List Int, PyData.eqvAll (ns.map PyData.int) (ms.map PyData.int) = decide (ns = ms)
  | [], [] => by simp [PyData.eqvAll]
  | [], m :: ms => by simp [PyData.eqvAll]
  | n :: ns, [] => by simp [PyData.eqvAll]
  | n :: ns, m :: ms => by
    have ih := eqvAll_ints ns ms
    simp only [List.map_cons, PyData.eqvAll, ih, PyData.eqv]
    by_cases h : n = m
    · subst h
      simp
    · simp [h]
theorem eqv_ints (ns ms : List Int) : PyData.eqv (.list (ns.map PyData.int)) (.list (ms.map PyData.int)) = decide (ns = ms) := by
  simp only [PyData.eqv]
  exact eqvAll_ints ns ms
theorem eqI_ {K : PySem.W.Frag} {H : Hp} {Q : VK} {c e : Addr} {ns ms : List Int} (hc : SqL K H c (ns.map V.int)) (he : SqL K H e (ms.map V.int)) (h : Q (.bl (decide (ns = ms))) H) : rEqU K (.ref c) (.ref e) H Q :=
  HC.eqd_ (.lst hc (HC.dpAll_ints ns)) (.lst he (HC.dpAll_ints ms)) (PySem.W.shaped_ints ns) (PySem.W.shaped_ints ms) (by rw [eqv_ints]; exact h)
theorem neI_ {K : PySem.W.Frag} {H : Hp} {Q : VK} {c e : Addr} {ns ms : List Int} (hc : SqL K H c (ns.map V.int)) (he : SqL K H e (ms.map V.int)) (h : Q (.bl (!decide (ns = ms))) H) : rNeU K (.ref c) (.ref e) H Q :=
  HC.ned_ (.lst hc (HC.dpAll_ints ns)) (.lst he (HC.dpAll_ints ms)) (PySem.W.shaped_ints ns) (PySem.W.shaped_ints ms) (by rw [eqv_ints]; exact h)
end HB
/-! sums of powers: once not below nothing, then above -/
namespace THR
/-- p x^(p+1) + y^(p+1) - (p+1) y x^p -/
def E (p : Nat) (x y : Int) : Int := (p : Int) * x ^ (p + 1) + y ^ (p + 1) - ((p : Int) + 1) * (y * x ^ p)
theorem E_succ (p : Nat) (x y : Int) : E (p + 1) x y = y * E p x y + ((p : Int) + 1) * (x ^ p * ((x - y) * (x - y))) := by
  unfold E
  have h1 : x ^ (p + 1 + 1) = x ^ p * (x * x) := by rw [Int.pow_succ, Int.pow_succ, Int.mul_assoc]
  have h2 : x ^ (p + 1) = x ^ p * x := Int.pow_succ ..
  have h3 : y ^ (p + 1 + 1) = y * y ^ (p + 1) := by rw [Int.pow_succ, Int.mul_comm]
  rw [h1, h2, h3]
  generalize x ^ p = u
  generalize y ^ (p + 1) = v
  have e0 : ((p + 1 : Nat) : Int) = (p : Int) + 1 := by omega
  rw [e0]
  generalize (p : Int) = q
  simp only [Int.mul_sub, Int.sub_mul, Int.mul_add, Int.add_mul, Int.one_mul, Int.mul_one]
  have a1 : y * (q * (u * x)) = q * (y * (u * x)) := by ac_rfl
  have a2 : y * (q * (y * u)) = q * (u * (y * y)) := by ac_rfl
  have a3 : y * (y * u) = u * (y * y) := by ac_rfl
  have a4 : u * (y * x) = y * (u * x) := by ac_rfl
  have a5 : u * (x * y) = y * (u * x) := by ac_rfl
  have a6 : q * (u * (y * x)) = q * (y * (u * x)) := by ac_rfl
  have a7 : q * (u * (x * y)) = q * (y * (u * x)) := by ac_rfl
  rw [a1, a2, a3] 
  try rw [a4]
  try rw [a5]
  try rw [a6]
  try rw [a7]
  omega
theorem sq_pos {x y : Int} (h : x ≠ y) : 0 < (x - y) * (x - y) := by
  rcases Int.lt_or_gt_of_ne h with z | z
  · exact Int.mul_pos_of_neg_of_neg (by omega) (by omega)
  · exact Int.mul_pos (by omega) (by omega)
theorem E_pos {x y : Int} (hx : 0 < x) (hy : 0 < y) (h : x ≠ y) : ∀ p : Nat, 0 < E (p + 1) x y
  | 0 => by
    rw [E_succ]
    have e : E 0 x y = 0 := by
      unfold E
      have h1 : x ^ 0 = 1 := Int.pow_zero _
      have h2 : y ^ (0 + 1) = y := by rw [Int.pow_succ, Int.pow_zero, Int.one_mul]
      rw [h1, h2]
      simp
    rw [e]
    have := sq_pos h
    simp
    exact this
  | p + 1 => by
    rw [E_succ]
    have e1 := Int.mul_pos hy (E_pos hx hy h p)
    have e2 : 0 < ((p + 1 : Nat) : Int) + 1 := by omega
    have e3 := Int.mul_pos e2 (Int.mul_pos (Int.pow_pos (m := p + 1) hx) (sq_pos h))
    omega
/-- once the sum at p is not below nothing, the next one is above -/
theorem grows {a b c d : Int} (h1 : 0 < a) (h2 : a < b) (h3 : b ≤ c) (h4 : c < d) (p : Nat) (h : 0 ≤ a ^ (p + 1) + d ^ (p + 1) - b ^ (p + 1) - c ^ (p + 1)) : 0 < a ^ (p + 1 + 1) + d ^ (p + 1 + 1) - b ^ (p + 1 + 1) - c ^ (p + 1 + 1) := by
  have e1 := E_pos (x := d) (y := c) (by omega) (by omega) (by omega) p
  have e2 := E_pos (x := a) (y := b) (by omega) (by omega) (by omega) p
  unfold E at e1 e2
  have hq : (((p + 1 : Nat) : Int)) = (p : Int) + 1 := by omega
  rw [hq] at e1 e2
  have hb : b ^ (p + 1 + 1) = b * b ^ (p + 1) := by rw [Int.pow_succ, Int.mul_comm]
  have hc : c ^ (p + 1 + 1) = c * c ^ (p + 1) := by rw [Int.pow_succ, Int.mul_comm]
  have hD : 0 < b ^ (p + 1) - a ^ (p + 1) := by
    have : a ^ (p + 1) < b ^ (p + 1) := by
      obtain ⟨m, rfl⟩ := Int.eq_ofNat_of_zero_le (show 0 ≤ a by omega)
      obtain ⟨n, rfl⟩ := Int.eq_ofNat_of_zero_le (show 0 ≤ b by omega)
      have := Nat.pow_lt_pow_left (show m < n by omega) (show p + 1 ≠ 0 by omega)
      have e3 : ((m ^ (p + 1) : Nat) : Int) < ((n ^ (p + 1) : Nat) : Int) := by omega
      rw [Int.natCast_pow, Int.natCast_pow] at e3
      exact e3
    omega
  rw [hb] at e2
  rw [hc] at e1
  rw [hb, hc]
  have hq0 : 0 < (p : Int) + 1 := by omega
  generalize (p : Int) + 1 = q at e1 e2 hq0
  generalize a ^ (p + 1 + 1) = A2 at *
  generalize d ^ (p + 1 + 1) = D2 at *
  generalize a ^ (p + 1) = A at *
  generalize b ^ (p + 1) = B at *
  generalize c ^ (p + 1) = C at *
  generalize d ^ (p + 1) = D at *
  -- q (D2 - c C) > (q+1) c (D - C) >= (q+1) b (B - A) > q (b B - A2)
  have s1 : (q + 1) * (c * (D - C)) ≥ (q + 1) * (b * (B - A)) := by
    refine Int.mul_le_mul_of_nonneg_left ?_ (by omega)
    have t1 : b * (B - A) ≤ c * (B - A) := Int.mul_le_mul_of_nonneg_right h3 (by omega)
    have t2 : c * (B - A) ≤ c * (D - C) := Int.mul_le_mul_of_nonneg_left (by omega) (by omega)
    omega
  have s2 : 0 < q * (A2 + D2 - b * B - c * C) := by
    simp only [Int.mul_sub, Int.mul_add, Int.add_mul, Int.one_mul] at s1 e1 e2 ⊢
    omega
  rcases Int.lt_or_le 0 (A2 + D2 - b * B - c * C) with z | z
  · exact z
  · have := Int.mul_le_mul_of_nonneg_left z (show 0 ≤ q by omega)
    rw [Int.mul_zero] at this
    omega
end THR
/-! the walk on data: slots hold data, lists of one's own among them; no heap in sight -/
namespace HD
open PySem PySem.Spec PyProof.Rows L2 HX
inductive D where
  | non | bl (b : Bool) | int (i : Int) | str (x : Str) | ty (n : String) | glo (a : Addr) | hat
  | tup (xs : List D) | lst (xs : List D) | ins (C : Addr) (fs : List (Str × D))
def TsM (K : PySem.W.Frag) (M : Addr → Prop) (H : Hp) (a : Addr) (vs : List V) : Prop := (¬ M a ∧ H a = some (.tup vs)) ∨ SqT K (fun _ => none) a vs
mutual
/-- v stands for d; no changing thing in it -/
inductive R (K : PySem.W.Frag) (g : Addr) (M : Addr → Prop) (H : Hp) : V → D → Prop
  | non : R K g M H .non .non
  | bl (b : Bool) : R K g M H (.bl b) (.bl b)
  | int (i : Int) : R K g M H (.int i) (.int i)
  | str (x : Str) : R K g M H (.str x) (.str x)
  | ty (n : String) : R K g M H (.ty n) (.ty n)
  | glo (a : Addr) : R K g M H (.ref a) (.glo a)
  | hat : R K g M H (.ref g) .hat
  | lst {a : Addr} {vs : List V} {xs : List D} : ¬ M a → H a = some (.lst vs) → RA K g M H vs xs → R K g M H (.ref a) (.lst xs)
  | tup {a : Addr} {vs : List V} {xs : List D} : TsM K M H a vs → RA K g M H vs xs → R K g M H (.ref a) (.tup xs)
  | ins {a C dx : Addr} {fv : List (Str × V)} {fs : List (Str × D)} : ¬ M a → H a = some (.ins C dx fv) → RF K g M H fv fs → R K g M H (.ref a) (.ins C fs)
inductive RA (K : PySem.W.Frag) (g : Addr) (M : Addr → Prop) (H : Hp) : List V → List D → Prop
  | nil : RA K g M H [] []
  | cons {v : V} {vs : List V} {d : D} {ds : List D} : R K g M H v d → RA K g M H vs ds → RA K g M H (v :: vs) (d :: ds)
inductive RF (K : PySem.W.Frag) (g : Addr) (M : Addr → Prop) (H : Hp) : List (Str × V) → List (Str × D) → Prop
  | nil : RF K g M H [] []
  | cons {f : Str} {v : V} {vs : List (Str × V)} {d : D} {ds : List (Str × D)} : R K g M H v d → RF K g M H vs ds → RF K g M H ((f, v) :: vs) ((f, d) :: ds)
end
/-- what is allocated beside M stays, and stands beside M' -/
def Mv (M M' : Addr → Prop) (H H' : Hp) : Prop := ∀ a o, ¬ M a → H a = some o → ¬ M' a ∧ H' a = some o
section
variable {K : PySem.W.Frag} {g : Addr} {M M' : Addr → Prop} {H H' : Hp}
theorem TsM.mv (m : Mv M M' H H') {a : Addr} {vs : List V} (h : TsM K M H a vs) : TsM K M' H' a vs := h.elim (fun z => .inl (m a _ z.1 z.2)) .inr
theorem TsM.sqt {a : Addr} {vs : List V} (h : TsM K M H a vs) : SqT K H a vs := by
  rcases h with h | h
  · exact .inl (.inl h.2)
  · rcases h with (h | ⟨o, h⟩) | h
    · cases h
    · cases h
    · exact .inr h
mutual
theorem R.mv (m : Mv M M' H H') : ∀ {v : V} {d : D}, R K g M H v d → R K g M' H' v d
  | _, _, .non => .non
  | _, _, .bl b => .bl b
  | _, _, .int b => .int b
  | _, _, .str b => .str b
  | _, _, .ty b => .ty b
  | _, _, .glo b => .glo b
  | _, _, .hat => .hat
  | _, _, .lst n e a => .lst (m _ _ n e).1 (m _ _ n e).2 (RA.mv m a)
  | _, _, .tup s a => .tup (s.mv m) (RA.mv m a)
  | _, _, .ins n e a => .ins (m _ _ n e).1 (m _ _ n e).2 (RF.mv m a)
theorem RA.mv (m : Mv M M' H H') : ∀ {v : List V} {d : List D}, RA K g M H v d → RA K g M' H' v d
  | _, _, .nil => .nil
  | _, _, .cons a b => .cons (R.mv m a) (RA.mv m b)
theorem RF.mv (m : Mv M M' H H') : ∀ {v : List (Str × V)} {d : List (Str × D)}, RF K g M H v d → RF K g M' H' v d
  | _, _, .nil => .nil
  | _, _, .cons a b => .cons (R.mv m a) (RF.mv m b)
end
theorem RA.len : ∀ {vs : List V} {ds : List D}, RA K g M H vs ds → vs.length = ds.length
  | _, _, .nil => rfl
  | _, _, .cons _ b => by rw [List.length_cons, List.length_cons, RA.len b]
theorem RA.at : ∀ {vs : List V} {ds : List D} {i : Nat} {d : D}, RA K g M H vs ds → ds[i]? = some d → ∃ v, vs[i]? = some v ∧ R K g M H v d
  | _, _, _, _, .nil, e => by cases e
  | _, _, 0, _, .cons a _, e => by cases e; exact ⟨_, rfl, a⟩
  | _, _, i + 1, _, .cons _ b, e => RA.at (i := i) b e
theorem RA.atV : ∀ {vs : List V} {ds : List D} {i : Nat} {v : V}, RA K g M H vs ds → vs[i]? = some v → ∃ d, ds[i]? = some d ∧ R K g M H v d
  | _, _, _, _, .nil, e => by cases e
  | _, _, 0, _, .cons a _, e => by cases e; exact ⟨_, rfl, a⟩
  | _, _, i + 1, _, .cons _ b, e => RA.atV (i := i) b e
theorem RA.append : ∀ {vs ws : List V} {ds es : List D}, RA K g M H vs ds → RA K g M H ws es → RA K g M H (vs ++ ws) (ds ++ es)
  | _, _, _, _, .nil, h => h
  | _, _, _, _, .cons a b, h => .cons a (RA.append b h)
theorem RA.take : ∀ {vs : List V} {ds : List D} (n : Nat), RA K g M H vs ds → RA K g M H (vs.take n) (ds.take n)
  | _, _, 0, _ => .nil
  | _, _, _ + 1, .nil => .nil
  | _, _, n + 1, .cons a b => .cons a (RA.take n b)
theorem RA.drop : ∀ {vs : List V} {ds : List D} (n : Nat), RA K g M H vs ds → RA K g M H (vs.drop n) (ds.drop n)
  | _, _, 0, h => h
  | _, _, _ + 1, .nil => .nil
  | _, _, n + 1, .cons _ b => RA.drop n b
theorem RA.reverse : ∀ {vs : List V} {ds : List D}, RA K g M H vs ds → RA K g M H vs.reverse ds.reverse
  | _, _, .nil => .nil
  | _, _, .cons a b => by rw [List.reverse_cons, List.reverse_cons]; exact RA.append (RA.reverse b) (.cons a .nil)
theorem RA.set : ∀ {vs : List V} {ds : List D} {v : V} {d : D} (i : Nat), RA K g M H vs ds → R K g M H v d → RA K g M H (vs.set i v) (ds.set i d)
  | _, _, _, _, _, .nil, _ => .nil
  | _, _, _, _, 0, .cons _ b, h => .cons h b
  | _, _, _, _, i + 1, .cons a b, h => .cons a (RA.set i b h)
theorem RA.dropLast {vs : List V} {ds : List D} (h : RA K g M H vs ds) : RA K g M H vs.dropLast ds.dropLast := by
  rw [List.dropLast_eq_take, List.dropLast_eq_take, h.len]
  exact h.take _
theorem RA.atI {vs : List V} {ds : List D} {i : Int} {d : D} (h : RA K g M H vs ds) (e : atI ds i = some d) : ∃ v, L2.atI vs i = some v ∧ R K g M H v d := by
  unfold L2.atI at e ⊢
  rw [h.len]
  cases z : ixN ds.length i with
  | none => rw [z] at e; cases e
  | some j =>
    rw [z] at e
    exact h.at e
theorem RA.ints : ∀ {vs : List V} {is : List Int}, RA K g M H vs (is.map D.int) → vs = is.map V.int
  | _, [], h => by cases h; rfl
  | _, i :: is, h => by
    cases h with
    | cons a b => cases a; rw [RA.ints b]; rfl
theorem RA.ofInts : ∀ (is : List Int), RA K g M H (is.map V.int) (is.map D.int)
  | [] => .nil
  | i :: is => .cons (.int i) (RA.ofInts is)
theorem RA.strs : ∀ {vs : List V} {is : List Str}, RA K g M H vs (is.map D.str) → vs = is.map V.str
  | _, [], h => by cases h; rfl
  | _, i :: is, h => by
    cases h with
    | cons a b => cases a; rw [RA.strs b]; rfl
theorem RA.ofStrs : ∀ (is : List Str), RA K g M H (is.map V.str) (is.map D.str)
  | [] => .nil
  | i :: is => .cons (.str i) (RA.ofStrs is)
theorem RA.bls : ∀ {vs : List V} {is : List Bool}, RA K g M H vs (is.map D.bl) → vs = is.map V.bl
  | _, [], h => by cases h; rfl
  | _, i :: is, h => by
    cases h with
    | cons a b => cases a; rw [RA.bls b]; rfl
theorem RF.at : ∀ {fv : List (Str × V)} {fs : List (Str × D)} {f : Str} {d : D}, RF K g M H fv fs → fs.lookup f = some d → ∃ v, fv.lookup f = some v ∧ R K g M H v d
  | _, _, _, _, .nil, e => by cases e
  | _, _, f, _, .cons (f := x) a b, e => by
    rw [List.lookup_cons] at e ⊢
    cases z : f == x with
    | true => rw [z] at e; cases e; exact ⟨_, rfl, a⟩
    | false => rw [z] at e; exact RF.at b e
end
/-- a thing of one's own at a -/
def RO (K : PySem.W.Frag) (g : Addr) (M : Addr → Prop) (H : Hp) (a : Addr) : D → Prop
  | .lst xs => ∃ vs, H a = some (.lst vs) ∧ RA K g M H vs xs
  | .ins C fs => ∃ dx fv, H a = some (.ins C dx fv) ∧ RF K g M H fv fs
  | _ => False
section
variable {K : PySem.W.Frag} {g : Addr} {M M' : Addr → Prop} {H H' : Hp} {a : Addr} {d : D}
theorem RO.at (h : RO K g M H a d) : ∃ o, H a = some o := by
  cases d <;> first | exact h.elim | skip
  · obtain ⟨_, h, _⟩ := h; exact ⟨_, h⟩
  · obtain ⟨_, _, h, _⟩ := h; exact ⟨_, h⟩
theorem RO.mv (m : Mv M M' H H') (k : ∀ o, H a = some o → H' a = some o) (h : RO K g M H a d) : RO K g M' H' a d := by
  cases d <;> first | exact h.elim | skip
  · obtain ⟨_, h, r⟩ := h; exact ⟨_, k _ h, r.mv m⟩
  · obtain ⟨_, _, h, r⟩ := h; exact ⟨_, _, k _ h, r.mv m⟩
theorem RO.r (h : RO K g M H a d) (n : ¬ M a) : R K g M H (.ref a) d := by
  cases d <;> first | exact h.elim | skip
  · obtain ⟨_, h, r⟩ := h; exact .lst n h r
  · obtain ⟨_, _, h, r⟩ := h; exact .ins n h r
end
/-! ### slots and pending items -/
inductive S where
  | un | v (d : D) | ow (d : D) | me (a : Addr) (d : D)
/-- a pending item: a value; what slot i holds; a new list of nobody's -/
inductive I where
  | v (d : D) | b (i : Nat) (d : D) | o (d : D)
def I.val : I → D
  | .v d => d
  | .b _ d => d
  | .o d => d
inductive SR (K : PySem.W.Frag) (g : Addr) (M : Addr → Prop) (H : Hp) : S → List Addr → Option V → Prop
  | un (x : Option V) : SR K g M H .un [] x
  | v {v : V} {d : D} : R K g M H v d → SR K g M H (.v d) [] (some v)
  | ow {a : Addr} {d : D} : RO K g M H a d → SR K g M H (.ow d) [a] (some (.ref a))
  | me {a : Addr} {d : D} : RO K g M H a d → SR K g M H (.me a d) [a] (some (.ref a))
inductive SRs (K : PySem.W.Frag) (g : Addr) (M : Addr → Prop) (H : Hp) : List S → List Addr → L2.St → Prop
  | nil : SRs K g M H [] [] []
  | cons {s : S} {l : List Addr} {x : Option V} {ρ : List S} {L : List Addr} {σ : L2.St} : SR K g M H s l x → SRs K g M H ρ L σ → SRs K g M H (s :: ρ) (l ++ L) (x :: σ)
inductive IR (K : PySem.W.Frag) (g : Addr) (M : Addr → Prop) (H : Hp) (ρ : List S) (σ : L2.St) : I → List Addr → V → Prop
  | v {v : V} {d : D} : R K g M H v d → IR K g M H ρ σ (.v d) [] v
  | o {a : Addr} {d : D} : RO K g M H a d → IR K g M H ρ σ (.o d) [a] (.ref a)
  | b {i : Nat} {w : V} {d : D} : σ[i]? = some (some w) → (ρ[i]? = some (.ow d) ∨ ρ[i]? = some (.v d) ∨ ∃ a, ρ[i]? = some (.me a d)) → IR K g M H ρ σ (.b i d) [] w
inductive IRs (K : PySem.W.Frag) (g : Addr) (M : Addr → Prop) (H : Hp) (ρ : List S) (σ : L2.St) : List I → List Addr → List V → Prop
  | nil : IRs K g M H ρ σ [] [] []
  | cons {s : I} {l : List Addr} {x : V} {ds : List I} {L : List Addr} {vs : List V} : IR K g M H ρ σ s l x → IRs K g M H ρ σ ds L vs → IRs K g M H ρ σ (s :: ds) (l ++ L) (x :: vs)
section
variable {K : PySem.W.Frag} {g : Addr} {M M' : Addr → Prop} {H H' : Hp}
theorem SR.mv (m : Mv M M' H H') {s : S} {l : List Addr} {x : Option V} (k : ∀ a ∈ l, ∀ o, H a = some o → H' a = some o) (h : SR K g M H s l x) : SR K g M' H' s l x := by
  cases h with
  | un => exact .un _
  | v r => exact .v (r.mv m)
  | ow r => exact .ow (r.mv m (k _ (by simp)))
  | me r => exact .me (r.mv m (k _ (by simp)))
theorem SRs.mv (m : Mv M M' H H') : ∀ {ρ : List S} {L : List Addr} {σ : L2.St}, (∀ a ∈ L, ∀ o, H a = some o → H' a = some o) → SRs K g M H ρ L σ → SRs K g M' H' ρ L σ
  | _, _, _, _, .nil => .nil
  | _, _, _, k, .cons a b => .cons (a.mv m fun x hx => k x (List.mem_append_left _ hx)) (SRs.mv m (fun x hx => k x (List.mem_append_right _ hx)) b)
theorem IR.mv (m : Mv M M' H H') {ρ : List S} {σ : L2.St} {s : I} {l : List Addr} {x : V} (k : ∀ a ∈ l, ∀ o, H a = some o → H' a = some o) (h : IR K g M H ρ σ s l x) : IR K g M' H' ρ σ s l x := by
  cases h with
  | v r => exact .v (r.mv m)
  | o r => exact .o (r.mv m (k _ (by simp)))
  | b e r => exact .b e r
theorem IRs.mv (m : Mv M M' H H') {ρ : List S} {σ : L2.St} : ∀ {ds : List I} {L : List Addr} {vs : List V}, (∀ a ∈ L, ∀ o, H a = some o → H' a = some o) → IRs K g M H ρ σ ds L vs → IRs K g M' H' ρ σ ds L vs
  | _, _, _, _, .nil => .nil
  | _, _, _, k, .cons a b => .cons (a.mv m fun x hx => k x (List.mem_append_left _ hx)) (IRs.mv m (fun x hx => k x (List.mem_append_right _ hx)) b)
theorem SRs.at : ∀ {ρ : List S} {L : List Addr} {σ : L2.St} {i : Nat} {s : S}, SRs K g M H ρ L σ → ρ[i]? = some s →
    ∃ L1 l L2 x, L = L1 ++ (l ++ L2) ∧ σ[i]? = some x ∧ SR K g M H s l x ∧ ∀ {s' l' x'}, SR K g M H s' l' x' → SRs K g M H (ρ.set i s') (L1 ++ (l' ++ L2)) (σ.set i x')
  | _, _, _, _, _, .nil, e => by cases e
  | _, _, _, 0, _, .cons a b, e => by cases e; exact ⟨[], _, _, _, rfl, rfl, a, fun {_ l' _} h => SRs.cons (l := l') h b⟩
  | _, _, _, i + 1, _, .cons (l := l0) a b, e => by
    obtain ⟨L1, l, L2, x, e1, e2, e3, e4⟩ := SRs.at (i := i) b e
    refine ⟨l0 ++ L1, l, L2, x, by rw [e1, List.append_assoc], e2, e3, fun h => ?_⟩
    rw [List.append_assoc]
    exact .cons a (e4 h)
theorem SRs.atM : ∀ {ρ : List S} {L : List Addr} {σ : L2.St} {i : Nat} {s : S}, SRs K g M H ρ L σ → ρ[i]? = some s →
    ∃ L1 l L2 x, L = L1 ++ (l ++ L2) ∧ σ[i]? = some x ∧ SR K g M H s l x ∧ ∀ {M' H' s' l' x'}, Mv M M' H H' → (∀ a ∈ L1 ++ L2, ∀ o, H a = some o → H' a = some o) → SR K g M' H' s' l' x' → SRs K g M' H' (ρ.set i s') (L1 ++ (l' ++ L2)) (σ.set i x')
  | _, _, _, _, _, .nil, e => by cases e
  | _, _, _, 0, _, .cons a b, e => by cases e; exact ⟨[], _, _, _, rfl, rfl, a, fun {_ _ _ l' _} m k h => SRs.cons (l := l') h (b.mv m k)⟩
  | _, _, _, i + 1, _, .cons (l := l0) a b, e => by
    obtain ⟨L1, l, L2, x, e1, e2, e3, e4⟩ := SRs.atM (i := i) b e
    refine ⟨l0 ++ L1, l, L2, x, by rw [e1, List.append_assoc], e2, e3, fun {M' H' s' l' x'} m k h => ?_⟩
    rw [List.append_assoc]
    exact .cons (a.mv m fun x hx => k x (List.mem_append_left _ (List.mem_append_left _ hx))) (e4 m (fun x hx => k x (by
      rcases List.mem_append.mp hx with z | z
      · exact List.mem_append_left _ (List.mem_append_right _ z)
      · exact List.mem_append_right _ z)) h)
theorem SRs.len : ∀ {ρ : List S} {L : List Addr} {σ : L2.St}, SRs K g M H ρ L σ → ρ.length = σ.length
  | _, _, _, .nil => rfl
  | _, _, _, .cons _ b => by rw [List.length_cons, List.length_cons, SRs.len b]
theorem SRs.own : ∀ {ρ : List S} {L : List Addr} {σ : L2.St}, SRs K g M H ρ L σ → ∀ a ∈ L, ∃ o, H a = some o
  | _, _, _, .nil, _, h => by cases h
  | _, _, _, .cons a b, x, h => by
    rcases List.mem_append.mp h with z | z
    · cases a with
      | un => cases z
      | v _ => cases z
      | ow e => rw [List.mem_singleton.mp z]; exact e.at
      | me e => rw [List.mem_singleton.mp z]; exact e.at
    · exact SRs.own b x z
theorem IRs.own {ρ : List S} {σ : L2.St} : ∀ {ds : List I} {L : List Addr} {vs : List V}, IRs K g M H ρ σ ds L vs → ∀ a ∈ L, ∃ o, H a = some o
  | _, _, _, .nil, _, h => by cases h
  | _, _, _, .cons a b, x, h => by
    rcases List.mem_append.mp h with z | z
    · cases a with
      | v _ => cases z
      | o e => rw [List.mem_singleton.mp z]; exact e.at
      | b _ _ => cases z
    · exact IRs.own b x z
theorem IRs.split {ρ : List S} {σ : L2.St} : ∀ {d1 d2 : List I} {L : List Addr} {vs : List V}, IRs K g M H ρ σ (d1 ++ d2) L vs → ∃ L1 L2 v1 v2, L = L1 ++ L2 ∧ vs = v1 ++ v2 ∧ v1.length = d1.length ∧ IRs K g M H ρ σ d1 L1 v1 ∧ IRs K g M H ρ σ d2 L2 v2
  | [], _, _, _, h => ⟨[], _, [], _, rfl, rfl, rfl, .nil, h⟩
  | _ :: d1, _, _, _, .cons (l := l) (x := x) a b => by
    obtain ⟨L1, L2, v1, v2, e1, e2, e3, h1, h2⟩ := IRs.split (d1 := d1) b
    refine ⟨l ++ L1, L2, x :: v1, v2, by rw [e1, List.append_assoc], by rw [e2]; rfl, by rw [List.length_cons, List.length_cons, e3], .cons a h1, h2⟩
theorem IRs.join {ρ : List S} {σ : L2.St} : ∀ {d1 d2 : List I} {L1 L2 : List Addr} {v1 v2 : List V}, IRs K g M H ρ σ d1 L1 v1 → IRs K g M H ρ σ d2 L2 v2 → IRs K g M H ρ σ (d1 ++ d2) (L1 ++ L2) (v1 ++ v2)
  | _, _, _, _, _, _, .nil, h => h
  | _, _, _, _, _, _, .cons a b, h => by rw [List.append_assoc]; exact .cons a (IRs.join b h)
end
/-- where one stands: the reel, what else may change outside, the heap at the entry -/
structure Wd (K : PySem.W.Frag) where
  g : Addr
  k : Addr
  ns : List Int
  M0 : Addr → Prop
  H0 : Hp
def Mo {K : PySem.W.Frag} (c : Wd K) (L : List Addr) (a : Addr) : Prop := c.M0 a ∨ a ∈ L
structure StX {K : PySem.W.Frag} (c : Wd K) (L B : List Addr) (ρ : List S) (n : Nat) (ds : List I) (σ : L2.St) (H : Hp) (vs : List V) : Prop where
  sl : SRs K c.g (Mo c (L ++ B)) H ρ L σ
  it : IRs K c.g (Mo c (L ++ B)) H ρ σ ds B vs
  nd : (L ++ B).Nodup
  fr : ∀ a ∈ L ++ B, ¬ c.M0 a ∧ c.H0 a = none
  kp : Kept c.g c.H0 H
  hat : Hat H c.g c.k c.ns n
  mg : c.M0 c.g
  ml : c.M0 c.k
  md : ∀ a, c.M0 a → ∃ o, c.H0 a = some o
def St {K : PySem.W.Frag} (c : Wd K) (ρ : List S) (n : Nat) (ds : List I) (σ : L2.St) (H : Hp) (vs : List V) : Prop := ∃ L B, StX c L B ρ n ds σ H vs
section
variable {K : PySem.W.Frag} {c : Wd K} {L B : List Addr} {ρ : List S} {n : Nat} {ds : List I} {σ : L2.St} {H H' : Hp} {vs : List V} {v : V} {it : I} {p : Addr}
theorem StX.at (s : StX c L B ρ n ds σ H vs) : ∀ a, Mo c (L ++ B) a → ∃ o, H a = some o := fun a h => by
  rcases h with h | h
  · by_cases e : a = c.g
    · rw [e]; exact s.hat.at
    · obtain ⟨o, ho⟩ := s.md a h
      exact ⟨o, s.kp _ _ e ho⟩
  · rcases List.mem_append.mp h with z | z
    · obtain ⟨_, e⟩ := s.sl.own a z; exact ⟨_, e⟩
    · obtain ⟨_, e⟩ := s.it.own a z; exact ⟨_, e⟩
theorem StX.free (s : StX c L B ρ n ds σ H vs) (hp : H p = none) : ¬ Mo c (L ++ B) p := fun h => by
  obtain ⟨o, e⟩ := s.at p h
  rw [hp] at e; cases e
theorem mv_same {M : Addr → Prop} (e : Same H H') : Mv M M H H' := fun a o n h => ⟨n, e a o h⟩
theorem StX.same (s : StX c L B ρ n ds σ H vs) (e : Same H H') : StX c L B ρ n ds σ H' vs :=
  ⟨s.sl.mv (mv_same e) fun a _ o h => e a o h, s.it.mv (mv_same e) fun a _ o h => e a o h, s.nd, s.fr, s.kp.trans (kept_same e), s.hat.same e, s.mg, s.ml, s.md⟩
theorem St.same (s : St c ρ n ds σ H vs) (e : Same H H') : St c ρ n ds σ H' vs := by
  obtain ⟨L, B, s⟩ := s
  exact ⟨L, B, s.same e⟩
/-- the reel is drawn from, nothing else -/
theorem StX.kept {m : Nat} (s : StX c L B ρ n ds σ H vs) (e : Kept c.g H H') (h : Hat H' c.g c.k c.ns m) : StX c L B ρ m ds σ H' vs := by
  have hk : ∀ a ∈ L ++ B, ∀ o, H a = some o → H' a = some o := fun a ha o ho => e a o (fun z => (s.fr a ha).1 (z ▸ s.mg)) ho
  have mv : Mv (Mo c (L ++ B)) (Mo c (L ++ B)) H H' := fun a o na ho => ⟨na, e a o (fun z => na (.inl (z ▸ s.mg))) ho⟩
  exact ⟨s.sl.mv mv fun a ha => hk a (List.mem_append_left _ ha), s.it.mv mv fun a ha => hk a (List.mem_append_right _ ha), s.nd, s.fr, s.kp.trans e, h, s.mg, s.ml, s.md⟩
theorem mv_less {M M' : Addr → Prop} (e : ∀ a, M' a → M a) : Mv M M' H H := fun a o n h => ⟨fun z => n (e a z), h⟩
theorem mo_less {L L' : List Addr} (e : ∀ a ∈ L', a ∈ L) : ∀ a, Mo c L' a → Mo c L a := fun a h => h.elim .inl fun z => .inr (e a z)
/-- the topmost item goes -/
theorem StX.pop {d : I} (s : StX c L B ρ n (d :: ds) σ H (v :: vs)) : ∃ B', StX c L B' ρ n ds σ H vs := by
  obtain ⟨sl, it, nd, fr, kp, hat, mg, ml, md⟩ := s
  cases it with
  | @cons _ l _ _ B2 _ a b =>
    have hs : ∀ a ∈ L ++ B2, a ∈ L ++ (l ++ B2) := fun a ha => by
      rcases List.mem_append.mp ha with z | z
      · exact List.mem_append_left _ z
      · exact List.mem_append_right _ (List.mem_append_right _ z)
    refine ⟨B2, sl.mv (mv_less (mo_less hs)) fun _ _ _ h => h, b.mv (mv_less (mo_less hs)) fun _ _ _ h => h, ?_, fun a ha => fr a (hs a ha), kp, hat, mg, ml, md⟩
    exact nd.sublist ((List.Sublist.refl L).append (List.sublist_append_right l B2))
theorem St.pop {d : I} (s : St c ρ n (d :: ds) σ H (v :: vs)) : St c ρ n ds σ H vs := by
  obtain ⟨L, B, s⟩ := s
  obtain ⟨B', s⟩ := s.pop
  exact ⟨L, B', s⟩
theorem StX.pushR {d : D} (s : StX c L B ρ n ds σ H vs) (r : R K c.g (Mo c (L ++ B)) H v d) : StX c L B ρ n (.v d :: ds) σ H (v :: vs) :=
  ⟨s.sl, .cons (l := []) (.v r) s.it, s.nd, s.fr, s.kp, s.hat, s.mg, s.ml, s.md⟩
/-- what stands for itself -/
def sc : V → D → Prop
  | .non, .non => True
  | .bl a, .bl b => a = b
  | .int a, .int b => a = b
  | .str a, .str b => a = b
  | .ty a, .ty b => a = b
  | _, _ => False
theorem sc.r {g : Addr} {M : Addr → Prop} {d : D} (h : sc v d) : R K g M H v d := by
  cases v <;> cases d <;> first | exact h.elim | (cases h; constructor)
theorem St.pushS {d : D} (s : St c ρ n ds σ H vs) (r : sc v d) : St c ρ n (.v d :: ds) σ H (v :: vs) := by
  obtain ⟨L, B, s⟩ := s
  exact ⟨L, B, s.pushR r.r⟩
theorem StX.old {B' : List Addr} (s : StX c L B ρ n ds σ H vs) (h : ∀ a ∈ B', H a = none) : Mv (Mo c (L ++ B)) (Mo c (L ++ (B' ++ B))) H H := fun a o na ho => ⟨fun z => by
  rcases z with z | z
  · exact na (.inl z)
  · rcases List.mem_append.mp z with z | z
    · exact na (.inr (List.mem_append_left _ z))
    · rcases List.mem_append.mp z with z | z
      · rw [h a z] at ho; cases ho
      · exact na (.inr (List.mem_append_right _ z)), ho⟩
/-- a new list -/
theorem StX.pushO {xs : List D} {ws : List V} (s : StX c L B ρ n ds σ H vs) (hp : H p = none) (r : RA K c.g (Mo c (L ++ B)) H ws xs) : StX c L ([p] ++ B) ρ n (.o (.lst xs) :: ds) σ (upd H p (.lst ws)) (.ref p :: vs) := by
  have sm : Same H (upd H p (.lst ws)) := HX.same_new hp
  have mv : Mv (Mo c (L ++ B)) (Mo c (L ++ ([p] ++ B))) H (upd H p (.lst ws)) := fun a o na ho => ⟨(s.old (B' := [p]) (fun a ha => by rw [List.mem_singleton.mp ha]; exact hp) a o na ho).1, sm a o ho⟩
  refine ⟨s.sl.mv mv fun a _ o h => sm a o h, .cons (l := [p]) (.o ⟨_, upd_same, r.mv mv⟩) (s.it.mv mv fun a _ o h => sm a o h), ?_, fun a ha => ?_, s.kp.trans (kept_same sm), s.hat.same sm, s.mg, s.ml, s.md⟩
  · have hn : p ∉ L ++ B := fun z => s.free hp (.inr z)
    exact (List.perm_middle (a := p) (l₁ := L) (l₂ := B)).nodup_iff.mpr (List.nodup_cons.mpr ⟨hn, s.nd⟩)
  · rcases List.mem_append.mp ha with z | z
    · exact s.fr a (List.mem_append_left _ z)
    · rcases List.mem_append.mp z with z | z
      · rw [List.mem_singleton.mp z]
        refine ⟨fun q => s.free hp (.inl q), ?_⟩
        by_cases e : p = c.g
        · exact absurd s.mg (fun q => s.free hp (.inl (e ▸ q)))
        · cases q : c.H0 p with
          | none => rfl
          | some o => have := s.kp _ _ e q; rw [hp] at this; cases this
      · exact s.fr a (List.mem_append_right _ z)
/-- a new tuple -/
theorem StX.pushT {xs : List D} {ws : List V} (s : StX c L B ρ n ds σ H vs) (hp : H p = none) (r : RA K c.g (Mo c (L ++ B)) H ws xs) : StX c L B ρ n (.v (.tup xs) :: ds) σ (upd H p (.tup ws)) (.ref p :: vs) := by
  have sm : Same H (upd H p (.tup ws)) := HX.same_new hp
  exact (s.same sm).pushR (.tup (.inl ⟨s.free hp, upd_same⟩) (r.mv (mv_same sm)))
/-- an item's list -/
theorem StX.ls {xs : List D} (s : StX c L B ρ n (it :: ds) σ H (v :: vs)) (e : it.val = .lst xs) : ∃ a ws, v = .ref a ∧ H a = some (.lst ws) ∧ RA K c.g (Mo c (L ++ B)) H ws xs := by
  cases s.it with
  | cons a _ =>
    cases a with
    | v r => cases (show _ = D.lst xs from e); cases r with | lst n h q => exact ⟨_, _, rfl, h, q⟩
    | o h => cases (show _ = D.lst xs from e); obtain ⟨_, h, q⟩ := h; exact ⟨_, _, rfl, h, q⟩
    | @b i _ _ h q =>
      cases (show _ = D.lst xs from e)
      rcases q with q | q | ⟨a, q⟩
      · obtain ⟨_, _, _, x, _, e2, e3, _⟩ := s.sl.at q
        rw [h] at e2; cases e2
        cases e3 with | ow h2 => obtain ⟨_, h2, r⟩ := h2; exact ⟨_, _, rfl, h2, r⟩
      · obtain ⟨_, _, _, x, _, e2, e3, _⟩ := s.sl.at q
        rw [h] at e2; cases e2
        cases e3 with | v r => cases r with | lst n h2 r => exact ⟨_, _, rfl, h2, r⟩
      · obtain ⟨_, _, _, x, _, e2, e3, _⟩ := s.sl.at q
        rw [h] at e2; cases e2
        cases e3 with | me h2 => obtain ⟨_, h2, r⟩ := h2; exact ⟨_, _, rfl, h2, r⟩
theorem StX.val {d : D} (s : StX c L B ρ n (.v d :: ds) σ H (v :: vs)) : R K c.g (Mo c (L ++ B)) H v d := by
  cases s.it with
  | cons a _ => cases a with | v r => exact r
end
end HD
/-! the judgements of the walk on data, and their steps -/
namespace HD
open PySem PySem.Spec PyProof.Rows L2 HX
abbrev QI := I → List S → Nat → Prop
abbrev QS := List S → Nat → Prop
section
variable {K : PySem.W.Frag}
def GE (c : Wd K) (ρ : List S) (n : Nat) (ds : List I) (t : TE) (Q : QI) : Prop :=
  ∀ σ H vs (F : VK), St c ρ n ds σ H vs → (∀ it ρ' n' v H', Q it ρ' n' → St c ρ' n' (it :: ds) σ H' (v :: vs) → F v H') → t σ H F
def GT (c : Wd K) (ρ : List S) (n : Nat) (ds : List I) (t : TT) (Q : Bool → QS) : Prop :=
  ∀ σ H vs (F : Bool → Hp → Prop), St c ρ n ds σ H vs → (∀ b ρ' n' H', Q b ρ' n' → St c ρ' n' ds σ H' vs → F b H') → t σ H F
def GA (c : Wd K) (ρ : List S) (n : Nat) (ds : List I) (t : TA) (Q : List I → QS) : Prop :=
  ∀ σ H vs (F : List V → Hp → Prop), St c ρ n ds σ H vs → (∀ its ρ' n' xs H', Q its ρ' n' → xs.length = its.length → St c ρ' n' (its ++ ds) σ H' (xs ++ vs) → F xs H') → t σ H F
/-- a two-place operation on the two topmost items -/
def GO (c : Wd K) (ρ : List S) (n : Nat) (ds : List I) (r : R2) (ix iy : I) (Q : QI) : Prop :=
  ∀ σ H vs x y (F : VK), St c ρ n (iy :: ix :: ds) σ H (y :: x :: vs) → (∀ it ρ' n' v H', Q it ρ' n' → St c ρ' n' (it :: ds) σ H' (v :: vs) → F v H') → r x y H F
def GU (c : Wd K) (ρ : List S) (n : Nat) (ds : List I) (r : V → Hp → VK → Prop) (ix : I) (Q : QI) : Prop :=
  ∀ σ H vs x (F : VK), St c ρ n (ix :: ds) σ H (x :: vs) → (∀ it ρ' n' v H', Q it ρ' n' → St c ρ' n' (it :: ds) σ H' (v :: vs) → F v H') → r x H F
/-- a call of a built-in with items -/
def GB (c : Wd K) (ρ : List S) (n : Nat) (ds : List I) (r : List V → Hp → VK → Prop) (its : List I) (Q : QI) : Prop :=
  ∀ σ H vs xs (F : VK), xs.length = its.length → St c ρ n (its ++ ds) σ H (xs ++ vs) → (∀ it ρ' n' v H', Q it ρ' n' → St c ρ' n' (it :: ds) σ H' (v :: vs) → F v H') → r xs H F
/-- a method of a built-in type -/
def GM (c : Wd K) (ρ : List S) (n : Nat) (ds : List I) (r : V → List V → Hp → VK → Prop) (ix : I) (its : List I) (Q : QI) : Prop :=
  ∀ σ H vs x xs (F : VK), xs.length = its.length → St c ρ n (its ++ ix :: ds) σ H (xs ++ x :: vs) → (∀ it ρ' n' v H', Q it ρ' n' → St c ρ' n' (it :: ds) σ H' (v :: vs) → F v H') → r x xs H F
/-- a target -/
def GG (c : Wd K) (ρ : List S) (n : Nat) (ds : List I) (g : TG) (it : I) (Q : QS) : Prop :=
  ∀ σ H vs v (F : L2.St → Hp → Prop), St c ρ n (it :: ds) σ H (v :: vs) → (∀ ρ' n' σ' H', Q ρ' n' → St c ρ' n' ds σ' H' vs → F σ' H') → g v σ H F
def GGs (c : Wd K) (ρ : List S) (n : Nat) (ds : List I) (g : TGs) (its : List I) (Q : QS) : Prop :=
  ∀ σ H vs xs (F : L2.St → Hp → Prop), xs.length = its.length → St c ρ n (its ++ ds) σ H (xs ++ vs) → (∀ ρ' n' σ' H', Q ρ' n' → St c ρ' n' ds σ' H' vs → F σ' H') → g xs σ H F
structure Es where
  nx : QS
  rt : I → Nat → Prop
  bk : QS
  ct : QS
/-- what is handed back -/
def Rt (c : Wd K) (H : Hp) (v : V) : I → Prop
  | .v d => R K c.g c.M0 H v d
  | .o d => ∃ p, v = .ref p ∧ c.H0 p = none ∧ ¬ c.M0 p ∧ RO K c.g (fun a => c.M0 a ∨ a = p) H p d
  | .b _ _ => False
structure EOk (c : Wd K) (ds : List I) (vs : List V) (D : Es) (E : Ends) : Prop where
  nx : ∀ ρ n σ H, D.nx ρ n → St c ρ n ds σ H vs → E.nx σ H
  rt : ∀ it n v H, D.rt it n → Kept c.g c.H0 H → Hat H c.g c.k c.ns n → Rt c H v it → E.rt v H
  bk : ∀ ρ n σ H, D.bk ρ n → St c ρ n ds σ H vs → E.bk σ H
  ct : ∀ ρ n σ H, D.ct ρ n → St c ρ n ds σ H vs → E.ct σ H
def GS (c : Wd K) (ρ : List S) (n : Nat) (ds : List I) (t : TS) (D : Es) : Prop :=
  ∀ σ H vs E, St c ρ n ds σ H vs → EOk c ds vs D E → t E σ H
section
variable {c : Wd K} {ρ : List S} {n : Nat} {ds : List I} {nx bk ct : QS} {rt : I → Nat → Prop} {t u : TS} {te : TE} {g : TG} {cc : TT}
/-! ### statements -/
theorem seq_ (h : GS c ρ n ds t ⟨fun ρ' n' => GS c ρ' n' ds u ⟨nx, rt, bk, ct⟩, rt, bk, ct⟩) : GS c ρ n ds (tSeq t u) ⟨nx, rt, bk, ct⟩ := fun σ H vs E s k =>
  h σ H vs ⟨u E, E.rt, E.bk, E.ct⟩ s ⟨fun ρ n σ H q s' => q σ H vs E s' k, k.rt, k.bk, k.ct⟩
theorem cut_ (Mid : QS) (h : GS c ρ n ds t ⟨Mid, rt, bk, ct⟩) (h2 : ∀ ρ' n', Mid ρ' n' → GS c ρ' n' ds u ⟨nx, rt, bk, ct⟩) : GS c ρ n ds (tSeq t u) ⟨nx, rt, bk, ct⟩ := fun σ H vs E s k =>
  h σ H vs ⟨u E, E.rt, E.bk, E.ct⟩ s ⟨fun ρ n σ H q s' => h2 ρ n q σ H vs E s' k, k.rt, k.bk, k.ct⟩
theorem GS.mono {D D' : Es} (h : GS c ρ n ds t D) (h1 : ∀ ρ n, D.nx ρ n → D'.nx ρ n) (h2 : ∀ i n, D.rt i n → D'.rt i n) (h3 : ∀ ρ n, D.bk ρ n → D'.bk ρ n) (h4 : ∀ ρ n, D.ct ρ n → D'.ct ρ n) : GS c ρ n ds t D' := fun σ H vs E s k =>
  h σ H vs E s ⟨fun ρ n σ H q => k.nx ρ n σ H (h1 _ _ q), fun i n v H q => k.rt i n v H (h2 _ _ q), fun ρ n σ H q => k.bk ρ n σ H (h3 _ _ q), fun ρ n σ H q => k.ct ρ n σ H (h4 _ _ q)⟩
theorem next_ (h : nx ρ n) : GS c ρ n ds tNext ⟨nx, rt, bk, ct⟩ := fun σ H vs E s k => k.nx ρ n σ H h s
theorem brk_ (h : bk ρ n) : GS c ρ n ds tBreak ⟨nx, rt, bk, ct⟩ := fun σ H vs E s k => k.bk ρ n σ H h s
theorem cont_ (h : ct ρ n) : GS c ρ n ds tCont ⟨nx, rt, bk, ct⟩ := fun σ H vs E s k => k.ct ρ n σ H h s
theorem asg_ (h : GE c ρ n ds te fun it ρ' n' => GG c ρ' n' ds g it nx) : GS c ρ n ds (tAsg te g) ⟨nx, rt, bk, ct⟩ := fun σ H vs E s k =>
  h σ H vs _ s fun it ρ' n' v H' q s' => q σ H' vs v _ s' fun ρ2 n2 σ2 H2 q2 s2 => k.nx _ _ _ _ q2 s2
theorem drop_ (h : GE c ρ n ds te fun _ ρ' n' => nx ρ' n') : GS c ρ n ds (tDrop te) ⟨nx, rt, bk, ct⟩ := fun σ H vs E s k =>
  h σ H vs _ s fun it ρ' n' v H' q s' => k.nx _ _ _ _ q s'.pop
theorem ifS_ (h : GT c ρ n ds cc fun b ρ' n' => if b = true then GS c ρ' n' ds t ⟨nx, rt, bk, ct⟩ else GS c ρ' n' ds u ⟨nx, rt, bk, ct⟩) : GS c ρ n ds (tIfS cc t u) ⟨nx, rt, bk, ct⟩ := fun σ H vs E s k =>
  h σ H vs _ s fun b ρ' n' H' q s' => by
    cases b with
    | true => rw [if_pos rfl] at q ⊢; exact q σ H' vs E s' k
    | false => rw [if_neg Bool.false_ne_true] at q ⊢; exact q σ H' vs E s' k
/-- what a return hands back -/
def fin (rt : I → Nat → Prop) (ρ : List S) (n : Nat) : I → Prop
  | .v d => rt (.v d) n
  | .o d => rt (.o d) n
  | .b i d => match ρ[i]? with
    | some (.ow _) => rt (.o d) n
    | some (.me _ _) => rt (.o d) n
    | _ => rt (.v d) n
theorem StX.kept0 {L B : List Addr} {σ : L2.St} {H : Hp} {vs : List V} (s : StX c L B ρ n ds σ H vs) : Mv (Mo c (L ++ B)) c.M0 H H := fun a o na h => ⟨fun z => na (.inl z), h⟩
theorem own_rt {L B : List Addr} {σ : L2.St} {H : Hp} {vs : List V} {a : Addr} {d : D} (s : StX c L B ρ n ds σ H vs) (ha : a ∈ L ++ B) (r : RO K c.g (Mo c (L ++ B)) H a d) : Rt c H (.ref a) (.o d) :=
  ⟨a, rfl, (s.fr a ha).2, (s.fr a ha).1, r.mv (fun b o nb ho => ⟨fun z => nb (z.elim .inl fun e => .inr (e ▸ ha)), ho⟩) fun _ h => h⟩
theorem ret_ (h : GE c ρ n ds te fun it ρ' n' => fin rt ρ' n' it) : GS c ρ n ds (tRet te) ⟨nx, rt, bk, ct⟩ := fun σ H vs E s k =>
  h σ H vs _ s fun it ρ' n' v H' q ⟨L, B, s⟩ => by
    have s0 := s
    cases hit : s.it with
    | cons a b =>
      cases a with
      | v r => exact k.rt _ _ _ _ q s.kp s.hat (r.mv s.kept0)
      | o r => exact k.rt _ _ _ _ q s.kp s.hat (own_rt s (List.mem_append_right _ (by simp)) r)
      | @b i w xs e r =>
        have sl := s.sl
        rcases r with r | r | ⟨a, r⟩
        · have q' : rt (.o xs) n' := by
            have q := q
            simp only [fin, r] at q
            exact q
          obtain ⟨L1, l, L2, x, e1, e2, e3, _⟩ := sl.at r
          rw [e] at e2; cases e2
          cases e3 with
          | ow h1 => exact k.rt _ _ _ _ q' s.kp s.hat (own_rt s (by rw [e1]; simp) h1)
        · have q' : rt (.v xs) n' := by
            have q := q
            simp only [fin, r] at q
            exact q
          obtain ⟨L1, l, L2, x, e1, e2, e3, _⟩ := sl.at r
          rw [e] at e2; cases e2
          cases e3 with
          | v r => exact k.rt _ _ _ _ q' s.kp s.hat (r.mv s.kept0)
        · have q' : rt (.o xs) n' := by
            have q := q
            simp only [fin, r] at q
            exact q
          obtain ⟨L1, l, L2, x, e1, e2, e3, _⟩ := sl.at r
          rw [e] at e2; cases e2
          cases e3 with
          | me h1 => exact k.rt _ _ _ _ q' s.kp s.hat (own_rt s (by rw [e1]; simp) h1)
theorem retN_ (h : rt (.v .non) n) : GS c ρ n ds tRetN ⟨nx, rt, bk, ct⟩ := fun σ H vs E ⟨L, B, s⟩ k => k.rt _ _ _ _ h s.kp s.hat .non
end
end

/-! ### a pending item made fast -/
def frz1 (ρ : List S) : I → List S
  | .b i d => match ρ[i]? with
    | some (.ow _) => ρ.set i (.v d)
    | some (.me _ _) => ρ.set i (.v d)
    | _ => ρ
  | _ => ρ
def frz : List I → List S → List S
  | [], ρ => ρ
  | it :: its, ρ => frz its (frz1 ρ it)
def fv (it : I) : I := .v it.val
section
variable {K : PySem.W.Frag} {c : Wd K} {L B : List Addr} {ρ : List S} {n : Nat} {ds : List I} {σ : L2.St} {H H' : Hp} {vs : List V} {v : V} {it : I} {p : Addr}
/-- items that look at slots -/
def isB : I → Bool
  | .b _ _ => true
  | _ => false
theorem IR.fr {g : Addr} {M : Addr → Prop} {i : Nat} {xs : D} (hi : ρ[i]? = some (.ow xs) ∨ ∃ a, ρ[i]? = some (.me a xs)) {it : I} {l : List Addr} {w : V} (h : IR K g M H ρ σ it l w) : IR K g M H (ρ.set i (.v xs)) σ it l w := by
  cases h with
  | v r => exact .v r
  | o r => exact .o r
  | @b j w ys e r =>
    refine .b e ?_
    by_cases z : i = j
    · subst z
      refine .inr (.inl ?_)
      have hl : i < ρ.length := hi.elim (fun h => (List.getElem?_eq_some_iff.mp h).1) fun ⟨_, h⟩ => (List.getElem?_eq_some_iff.mp h).1
      have e : ys = xs := by
        rcases hi with hi | ⟨a, hi⟩ <;> rw [hi] at r <;> rcases r with r | r | ⟨b, r⟩ <;> cases r <;> rfl
      rw [e, List.getElem?_set_self hl]
    · rw [List.getElem?_set_ne z]; exact r
theorem IRs.fr {g : Addr} {M : Addr → Prop} {i : Nat} {xs : D} (hi : ρ[i]? = some (.ow xs) ∨ ∃ a, ρ[i]? = some (.me a xs)) : ∀ {ds : List I} {l : List Addr} {w : List V}, IRs K g M H ρ σ ds l w → IRs K g M H (ρ.set i (.v xs)) σ ds l w
  | _, _, _, .nil => .nil
  | _, _, _, .cons a b => .cons (a.fr hi) (IRs.fr hi b)
/-- what slot i owns is made fast -/
theorem StX.fast {i : Nat} {xs : D} (s : StX c L B ρ n ds σ H vs) (hi : ρ[i]? = some (.ow xs) ∨ ∃ a, ρ[i]? = some (.me a xs)) : ∃ L', StX c L' B (ρ.set i (.v xs)) n ds σ H vs := by
  obtain ⟨sl, it, nd, fr, kp, hat, mg, ml, md⟩ := s
  have hl0 : i < ρ.length := hi.elim (fun h => (List.getElem?_eq_some_iff.mp h).1) fun ⟨_, h⟩ => (List.getElem?_eq_some_iff.mp h).1
  obtain ⟨L1, l, L2, x, e1, e2, e3, e4⟩ := sl.at (s := ρ[i]) (List.getElem?_eq_getElem hl0)
  obtain ⟨a, rfl, rfl, ra⟩ : ∃ a, l = [a] ∧ x = some (.ref a) ∧ RO K c.g (Mo c (L ++ B)) H a xs := by
    rcases hi with hi | ⟨a, hi⟩
    · have e : ρ[i] = .ow xs := Option.some.inj ((List.getElem?_eq_getElem hl0).symm.trans hi)
      rw [e] at e3
      cases e3 with | ow r => exact ⟨_, rfl, rfl, r⟩
    · have e : ρ[i] = .me a xs := Option.some.inj ((List.getElem?_eq_getElem hl0).symm.trans hi)
      rw [e] at e3
      cases e3 with | me r => exact ⟨_, rfl, rfl, r⟩
  · subst e1
    have sub : ∀ b ∈ (L1 ++ ([] ++ L2)) ++ B, b ∈ (L1 ++ ([a] ++ L2)) ++ B := fun b hb => by
      simp only [List.mem_append, List.mem_singleton, List.nil_append] at hb ⊢
      rcases hb with (z | z) | z
      · exact .inl (.inl z)
      · exact .inl (.inr (.inr z))
      · exact .inr z
    have hna : a ∉ (L1 ++ ([] ++ L2)) ++ B := fun z => by
      have nd2 : ((L1 ++ ([a] ++ L2)) ++ B).Nodup := nd
      have e : (L1 ++ ([a] ++ L2)) ++ B = L1 ++ a :: (L2 ++ B) := by simp
      rw [e] at nd2
      have nd3 := (List.nodup_cons.mp ((List.perm_middle (a := a) (l₁ := L1) (l₂ := L2 ++ B)).nodup_iff.mp nd2)).1
      exact nd3 (by simpa [List.append_assoc] using z)
    have mv : Mv (Mo c ((L1 ++ ([a] ++ L2)) ++ B)) (Mo c ((L1 ++ ([] ++ L2)) ++ B)) H H := mv_less (mo_less sub)
    have nr : R K c.g (Mo c ((L1 ++ ([] ++ L2)) ++ B)) H (.ref a) xs := (ra.mv mv fun _ h => h).r (fun z => z.elim (fun z => (fr a (by simp)).1 z) hna)
    refine ⟨L1 ++ ([] ++ L2), ?_, (it.mv mv fun _ _ _ h => h).fr hi, ?_, fun b hb => fr b (sub b hb), kp, hat, mg, ml, md⟩
    · have sl2 := (e4 (s' := .un) (l' := []) (.un (some (V.ref a)))).mv mv (fun _ _ _ h => h)
      have hl := hl0
      obtain ⟨L1', l', L2', x', f1, f2, f3, f4⟩ := sl2.at (i := i) (s := .un) (by rw [List.getElem?_set_self hl])
      cases f3
      have := f4 (SR.v nr)
      rw [← f1, List.set_set, List.set_set] at this
      have hx : σ.set i (some (V.ref a)) = σ := by
        obtain ⟨h1, h2⟩ := List.getElem?_eq_some_iff.mp e2
        rw [← h2, List.set_getElem_self]
      rw [hx] at this
      exact this
    · exact nd.sublist (by
        refine List.Sublist.append ?_ (List.Sublist.refl B)
        exact (List.Sublist.refl L1).append (List.sublist_append_right [a] L2))
theorem StX.frz1 (s : StX c L B ρ n (it :: ds) σ H (v :: vs)) : ∃ L' B', StX c L' B' (HD.frz1 ρ it) n (.v it.val :: ds) σ H (v :: vs) := by
  cases it with
  | v d => exact ⟨L, B, s⟩
  | o xs =>
    obtain ⟨sl, it, nd, fr, kp, hat, mg, ml, md⟩ := s
    cases it with
    | cons a b =>
      rename_i B2
      cases a with
      | @o a _ ra =>
        have sub : ∀ b ∈ L ++ B2, b ∈ L ++ ([a] ++ B2) := fun b hb => by
          simp only [List.mem_append, List.mem_singleton] at hb ⊢
          rcases hb with z | z
          · exact .inl z
          · exact .inr (.inr z)
        have hna : a ∉ L ++ B2 := fun z => (List.nodup_cons.mp ((List.perm_middle (a := a) (l₁ := L) (l₂ := B2)).nodup_iff.mp nd)).1 z
        have mv : Mv (Mo c (L ++ ([a] ++ B2))) (Mo c (L ++ B2)) H H := mv_less (mo_less sub)
        have nr : R K c.g (Mo c (L ++ B2)) H (.ref a) xs := (ra.mv mv fun _ h => h).r (fun z => z.elim (fun z => (fr a (by simp)).1 z) hna)
        exact ⟨L, B2, sl.mv mv fun _ _ _ h => h, .cons (l := []) (.v nr) (b.mv mv fun _ _ _ h => h), nd.sublist ((List.Sublist.refl L).append (List.sublist_append_right [a] B2)), fun b hb => fr b (sub b hb), kp, hat, mg, ml, md⟩
  | b i xs =>
    cases hit : s.it with
    | cons a b =>
      cases a with
      | @b i w xs e r =>
        by_cases hr : ρ[i]? = some (.ow xs) ∨ ∃ a, ρ[i]? = some (.me a xs)
        · obtain ⟨L', s'⟩ := s.fast hr
          have e2 : HD.frz1 ρ (.b i xs) = ρ.set i (.v xs) := by
            rcases hr with r | ⟨a, r⟩ <;> simp only [HD.frz1, r]
          rw [e2]
          have hl : i < ρ.length := hr.elim (fun h => (List.getElem?_eq_some_iff.mp h).1) fun ⟨_, h⟩ => (List.getElem?_eq_some_iff.mp h).1
          obtain ⟨L1, l, L2, x, e1, e3, e4, _⟩ := s'.sl.at (i := i) (s := .v xs) (by rw [List.getElem?_set_self hl])
          rw [e] at e3; cases e3
          cases e4 with
          | v q =>
            cases s'.it with
            | cons a' b' =>
              cases a'
              refine ⟨L', _, s'.sl, .cons (l := []) (.v q) b', s'.nd, s'.fr, s'.kp, s'.hat, s'.mg, s'.ml, s'.md⟩
        · have r2 : ρ[i]? = some (.v xs) := by
            rcases r with r | r | r
            · exact absurd (.inl r) hr
            · exact r
            · exact absurd (.inr r) hr
          have e2 : HD.frz1 ρ (.b i xs) = ρ := by simp only [HD.frz1, r2]
          rw [e2]
          obtain ⟨L1, l, L2, x, e1, e3, e4, _⟩ := s.sl.at r2
          rw [e] at e3; cases e3
          cases e4 with
          | v q => exact ⟨L, _, s.sl, .cons (l := []) (.v q) b, s.nd, s.fr, s.kp, s.hat, s.mg, s.ml, s.md⟩
theorem St.frz1 (s : St c ρ n (it :: ds) σ H (v :: vs)) : St c (HD.frz1 ρ it) n (.v it.val :: ds) σ H (v :: vs) := by
  obtain ⟨L, B, s⟩ := s
  exact s.frz1
/-- the topmost item sinks to the second place -/
theorem St.rot {is : List I} {ws : List V} (hl : ws.length = is.length) (s : St c ρ n (it :: (is ++ ds)) σ H (v :: (ws ++ vs))) : St c ρ n (is ++ it :: ds) σ H (ws ++ v :: vs) := by
  obtain ⟨L, B, sl, it, nd, fr, kp, hat, mg, ml, md⟩ := s
  cases it with
  | @cons _ l _ _ B2 _ a b =>
    obtain ⟨L1, L2, v1, v2, e1, e2, e3, h1, h2⟩ := b.split
    have e4 : ws = v1 ∧ vs = v2 := List.append_inj e2 (by rw [hl, e3])
    obtain ⟨rfl, rfl⟩ := e4
    subst e1
    have p : (L ++ (l ++ (L1 ++ L2))).Perm (L ++ (L1 ++ (l ++ L2))) := List.Perm.append_left L (by
      rw [← List.append_assoc, ← List.append_assoc]
      exact List.Perm.append_right L2 List.perm_append_comm)
    have mv : Mv (Mo c (L ++ (l ++ (L1 ++ L2)))) (Mo c (L ++ (L1 ++ (l ++ L2)))) H H := mv_less (mo_less fun a ha => p.symm.mem_iff.mp ha)
    exact ⟨L, L1 ++ (l ++ L2), sl.mv mv fun _ _ _ h => h, (h1.mv mv fun _ _ _ h => h).join (.cons (a.mv mv fun _ _ _ h => h) (h2.mv mv fun _ _ _ h => h)), p.nodup_iff.mp nd, fun a ha => fr a (p.symm.mem_iff.mp ha), kp, hat, mg, ml, md⟩
theorem St.rot' {is : List I} {ws : List V} (hl : ws.length = is.length) (s : St c ρ n (is ++ it :: ds) σ H (ws ++ v :: vs)) : St c ρ n (it :: (is ++ ds)) σ H (v :: (ws ++ vs)) := by
  obtain ⟨L, B, sl, it, nd, fr, kp, hat, mg, ml, md⟩ := s
  obtain ⟨L1, L2, v1, v2, e1, e2, e3, h1, h2⟩ := it.split
  have e4 : ws = v1 ∧ v :: vs = v2 := List.append_inj e2 (by rw [hl, e3])
  obtain ⟨rfl, rfl⟩ := e4
  subst e1
  cases h2 with
  | @cons _ l _ _ B2 _ a b =>
    have p : (L ++ (l ++ (L1 ++ B2))).Perm (L ++ (L1 ++ (l ++ B2))) := List.Perm.append_left L (by
      rw [← List.append_assoc, ← List.append_assoc]
      exact List.Perm.append_right B2 List.perm_append_comm)
    have mv : Mv (Mo c (L ++ (L1 ++ (l ++ B2)))) (Mo c (L ++ (l ++ (L1 ++ B2)))) H H := mv_less (mo_less fun a ha => p.mem_iff.mp ha)
    exact ⟨L, l ++ (L1 ++ B2), sl.mv mv fun _ _ _ h => h, .cons (a.mv mv fun _ _ _ h => h) ((h1.mv mv fun _ _ _ h => h).join (b.mv mv fun _ _ _ h => h)), p.symm.nodup_iff.mp nd, fun a ha => fr a (p.mem_iff.mp ha), kp, hat, mg, ml, md⟩
theorem St.frzs : ∀ {is : List I} {ws : List V} {ρ : List S} {ds : List I} {vs : List V}, ws.length = is.length → St c ρ n (is ++ ds) σ H (ws ++ vs) → St c (frz is ρ) n (is.map fv ++ ds) σ H (ws ++ vs)
  | [], [], _, _, _, _, s => s
  | it :: is, w :: ws, ρ, ds, vs, hl, s => by
    have hl2 : ws.length = is.length := by simpa using hl
    have s1 : St c (HD.frz1 ρ it) n (fv it :: (is ++ ds)) σ H (w :: (ws ++ vs)) := St.frz1 s
    have s2 := St.rot hl2 s1
    have s3 := St.frzs (ds := fv it :: ds) (vs := w :: vs) hl2 s2
    exact St.rot' (by rw [List.length_map]; exact hl2) s3
theorem StX.vals : ∀ {is : List D} {ws : List V} {ds : List I} {vs : List V} {B : List Addr}, ws.length = is.length → IRs K c.g (Mo c L) H ρ σ (is.map I.v ++ ds) B (ws ++ vs) → RA K c.g (Mo c L) H ws is
  | [], [], _, _, _, _, _ => .nil
  | i :: is, w :: ws, _, _, _, hl, h => by
    cases h with
    | cons a b => cases a with | v r => exact .cons r (StX.vals (by simpa using hl) b)
end
end HD
/-! expressions, targets, calls -/
namespace HD
open PySem PySem.Spec PyProof.Rows L2 HX
section
variable {K : PySem.W.Frag} {c : Wd K} {ρ : List S} {n : Nat} {ds : List I} {Q : QI} {QA : List I → QS} {QB : Bool → QS} {QG : QS}
/-! ### names and constants -/
/-- what a name's slot gives -/
def rd (i : Nat) (Q : I → Prop) : Option S → Prop
  | some (.v d) => Q (.v d)
  | some (.ow d) => Q (.b i d)
  | some (.me _ d) => Q (.b i d)
  | _ => False
theorem varG_ {i : Nat} (h : rd i (fun it => Q it ρ n) ρ[i]?) : GE c ρ n ds (tVar i) Q := fun σ H vs F s k => by
  obtain ⟨L, B, s⟩ := s
  cases e : ρ[i]? with
  | none => rw [e] at h; exact h.elim
  | some x =>
    rw [e] at h
    obtain ⟨L1, l, L2, y, e1, e2, e3, _⟩ := s.sl.at e
    cases e3 with
    | un => exact h.elim
    | v r => exact ⟨_, e2, k _ _ _ _ _ h ⟨L, B, s.pushR r⟩⟩
    | ow ra => exact ⟨_, e2, k _ _ _ _ _ h ⟨L, B, s.sl, .cons (l := []) (.b e2 (.inl e)) s.it, s.nd, s.fr, s.kp, s.hat, s.mg, s.ml, s.md⟩⟩
    | me ra => exact ⟨_, e2, k _ _ _ _ _ h ⟨L, B, s.sl, .cons (l := []) (.b e2 (.inr (.inr ⟨_, e⟩))) s.it, s.nd, s.fr, s.kp, s.hat, s.mg, s.ml, s.md⟩⟩
theorem c_ {v : V} {d : D} (hs : sc v d) (h : Q (.v d) ρ n) : GE c ρ n ds (tC v) Q := fun σ H vs F s k => k _ _ _ _ _ h (s.pushS hs)
theorem cint_ {i : Int} (h : Q (.v (.int i)) ρ n) : GE c ρ n ds (tC (.int i)) Q := c_ (d := .int i) rfl h
theorem cbl_ {i : Bool} (h : Q (.v (.bl i)) ρ n) : GE c ρ n ds (tC (.bl i)) Q := c_ (d := .bl i) rfl h
theorem cstr_ {i : Str} (h : Q (.v (.str i)) ρ n) : GE c ρ n ds (tC (.str i)) Q := c_ (d := .str i) rfl h
theorem cnon_ (h : Q (.v .non) ρ n) : GE c ρ n ds (tC .non) Q := c_ (d := .non) True.intro h
theorem cty_ {i : String} (h : Q (.v (.ty i)) ρ n) : GE c ρ n ds (tC (.ty i)) Q := c_ (d := .ty i) rfl h
theorem cglo_ {a : Addr} (h : Q (.v (.glo a)) ρ n) : GE c ρ n ds (tC (.ref a)) Q := fun σ H vs F ⟨L, B, s⟩ k => k _ _ _ _ _ h ⟨L, B, s.pushR (.glo a)⟩
/-! ### operators -/
theorem op_ {r : R2} {ta tb : TE} (h : GE c ρ n ds ta fun ix ρ1 n1 => GE c ρ1 n1 (ix :: ds) tb fun iy ρ2 n2 => GO c ρ2 n2 ds r ix iy Q) : GE c ρ n ds (tOp r ta tb) Q := fun σ H vs F s k =>
  h σ H vs _ s fun ix ρ1 n1 x H1 q1 s1 => q1 σ H1 (x :: vs) _ s1 fun iy ρ2 n2 y H2 q2 s2 => q2 σ H2 vs x y F s2 k
theorem un_ {r : V → Hp → VK → Prop} {ta : TE} (h : GE c ρ n ds ta fun ix ρ1 n1 => GU c ρ1 n1 ds r ix Q) : GE c ρ n ds (tUn r ta) Q := fun σ H vs F s k =>
  h σ H vs _ s fun ix ρ1 n1 x H1 q1 s1 => q1 σ H1 vs x F s1 k
theorem cb_ {r : List V → Hp → VK → Prop} {t : TA} (h : GA c ρ n ds t fun its ρ1 n1 => GB c ρ1 n1 ds r its Q) : GE c ρ n ds (tCB r t) Q := fun σ H vs F s k =>
  h σ H vs _ s fun its ρ1 n1 xs H1 q1 hl s1 => q1 σ H1 vs xs F hl s1 k
/-! ### arguments -/
theorem nil_ (h : QA [] ρ n) : GA c ρ n ds tNil QA := fun σ H vs F s k => k [] ρ n [] H h rfl s
theorem cons_ {te : TE} {tr : TA} (h : GE c ρ n ds te fun it ρ1 n1 => GA c ρ1 n1 (it :: ds) tr fun its ρ2 n2 => QA (it :: its) ρ2 n2) : GA c ρ n ds (tCons te tr) QA := fun σ H vs F s k =>
  h σ H vs _ s fun it ρ1 n1 x H1 q1 s1 => q1 σ H1 (x :: vs) _ s1 fun its ρ2 n2 xs H2 q2 hl s2 => k (it :: its) ρ2 n2 (x :: xs) H2 q2 (by simp [hl]) (St.rot' hl s2)
/-! ### displays -/
theorem IRs.dropV {g : Addr} {M : Addr → Prop} {H : Hp} {ρ : List S} {σ : L2.St} : ∀ {es : List D} {ws : List V} {ds : List I} {vs : List V} {B : List Addr}, ws.length = es.length → IRs K g M H ρ σ (es.map I.v ++ ds) B (ws ++ vs) → IRs K g M H ρ σ ds B vs
  | [], [], _, _, _, _, h => h
  | e :: es, w :: ws, _, _, _, hl, h => by
    cases h with
    | cons a b => cases a with | v _ => exact IRs.dropV (by simpa using hl) b
theorem items {is : List I} {ws : List V} {σ : L2.St} {H : Hp} {vs : List V} (hl : ws.length = is.length) (s : St c ρ n (is ++ ds) σ H (ws ++ vs)) : ∃ L B, StX c L B (frz is ρ) n ds σ H vs ∧ RA K c.g (Mo c (L ++ B)) H ws (is.map I.val) := by
  have s1 := St.frzs hl s
  have em : is.map fv = (is.map I.val).map I.v := by rw [List.map_map]; rfl
  rw [em] at s1
  have main : ∀ {es : List D} {ws : List V}, ws.length = es.length → St c (frz is ρ) n (es.map I.v ++ ds) σ H (ws ++ vs) → ∃ L B, StX c L B (frz is ρ) n ds σ H vs ∧ RA K c.g (Mo c (L ++ B)) H ws es := by
    intro es
    induction es with
    | nil => intro ws hl s; cases ws with
      | nil => obtain ⟨L, B, s⟩ := s; exact ⟨L, B, s, .nil⟩
      | cons _ _ => cases hl
    | cons e es ih =>
      intro ws hl s
      cases ws with
      | nil => cases hl
      | cons w ws =>
        obtain ⟨L, B, s⟩ := s
        have s' := s
        cases hit : s.it with
        | cons a b =>
          cases a with
          | v r =>
            have s2 : StX c L _ (frz is ρ) n (es.map I.v ++ ds) σ H (ws ++ vs) := ⟨s.sl, b, s.nd, s.fr, s.kp, s.hat, s.mg, s.ml, s.md⟩
            have hl2 : ws.length = es.length := by simpa using hl
            -- the same owners all along
            have q := StX.vals (L := L ++ _) hl2 s2.it
            exact ⟨L, _, ⟨s2.sl, IRs.dropV hl2 s2.it, s2.nd, s2.fr, s2.kp, s2.hat, s2.mg, s2.ml, s2.md⟩, .cons r q⟩
  exact main (by rw [List.length_map]; exact hl) s1
theorem tup_ {t : TA} (h : GA c ρ n ds t fun its ρ1 n1 => Nat.ble its.length 100000 = true ∧ Q (.v (.tup (its.map I.val))) (frz its ρ1) n1) : GE c ρ n ds (tTup t) Q := fun σ H vs F s k =>
  h σ H vs _ s fun its ρ1 n1 xs H1 q1 hl s1 => by
    refine ⟨Nat.le_trans (by rw [hl]; exact Nat.le_of_ble_eq_true q1.1) (by decide), fun p hp => ?_⟩
    obtain ⟨L, B, s2, r⟩ := items hl s1
    exact k _ _ _ _ _ q1.2 ⟨L, B, s2.pushT hp r⟩
theorem lst_ {t : TA} (h : GA c ρ n ds t fun its ρ1 n1 => Nat.ble its.length 100000 = true ∧ Q (.o (.lst (its.map I.val))) (frz its ρ1) n1) : GE c ρ n ds (tLst t) Q := fun σ H vs F s k =>
  h σ H vs _ s fun its ρ1 n1 xs H1 q1 hl s1 => by
    refine ⟨Nat.le_trans (by rw [hl]; exact Nat.le_of_ble_eq_true q1.1) (by decide), fun p hp => ?_⟩
    obtain ⟨L, B, s2, r⟩ := items hl s1
    exact k _ _ _ _ _ q1.2 ⟨L, _, s2.pushO hp r⟩
/-! ### tests -/
theorem test_ {te : TE} (h : GE c ρ n ds te fun it ρ' n' => ∃ b, it = .v (.bl b) ∧ QB b ρ' n') : GT c ρ n ds (tTest te) QB := fun σ H vs F s k =>
  h σ H vs _ s fun it ρ' n' v H' ⟨b, e, q⟩ s' => by
    subst e
    obtain ⟨L, B, s'⟩ := s'
    cases s'.val
    exact ⟨b, rfl, k _ _ _ _ q (St.pop ⟨L, B, s'⟩)⟩
theorem b_ {te : TE} (h : GE c ρ n ds te fun it ρ' n' => ∃ b, it = .v (.bl b) ∧ QB b ρ' n') : GT c ρ n ds (tB te) QB := test_ h
theorem and_ {t u : TT} (h : GT c ρ n ds t fun b ρ' n' => if b = true then GT c ρ' n' ds u QB else QB false ρ' n') : GT c ρ n ds (tAnd t u) QB := fun σ H vs F s k =>
  h σ H vs _ s fun b ρ' n' H' q s' => by
    cases b with
    | true => rw [if_pos rfl] at q ⊢; exact q σ H' vs F s' k
    | false => rw [if_neg Bool.false_ne_true] at q ⊢; exact k _ _ _ _ q s'
theorem or_ {t u : TT} (h : GT c ρ n ds t fun b ρ' n' => if b = true then QB true ρ' n' else GT c ρ' n' ds u QB) : GT c ρ n ds (tOr t u) QB := fun σ H vs F s k =>
  h σ H vs _ s fun b ρ' n' H' q s' => by
    cases b with
    | true => rw [if_pos rfl] at q ⊢; exact k _ _ _ _ q s'
    | false => rw [if_neg Bool.false_ne_true] at q ⊢; exact q σ H' vs F s' k
theorem not_ {t : TT} (h : GT c ρ n ds t fun b ρ' n' => QB (!b) ρ' n') : GT c ρ n ds (tNot t) QB := fun σ H vs F s k => h σ H vs _ s fun b ρ' n' H' q s' => k _ _ _ _ q s'
theorem yes_ (h : QB true ρ n) : GT c ρ n ds tYes QB := fun σ H vs F s k => k _ _ _ _ h s
theorem andV_ {ta tb : TE} (h : GE c ρ n ds ta fun it ρ' n' => ∃ b, it = .v (.bl b) ∧ if b = true then GE c ρ' n' ds tb Q else Q (.v (.bl false)) ρ' n') : GE c ρ n ds (tAndV ta tb) Q := fun σ H vs F s k =>
  h σ H vs _ s fun it ρ' n' v H' ⟨b, e, q⟩ s' => by
    subst e
    obtain ⟨L, B, s'⟩ := s'
    cases s'.val
    have s2 := St.pop ⟨L, B, s'⟩
    refine ⟨b, rfl, ?_⟩
    cases b with
    | true => rw [if_pos rfl] at q ⊢; exact q σ H' vs F s2 k
    | false => rw [if_neg Bool.false_ne_true] at q ⊢; exact k _ _ _ _ _ q (s2.pushS rfl)
theorem orV_ {ta tb : TE} (h : GE c ρ n ds ta fun it ρ' n' => ∃ b, it = .v (.bl b) ∧ if b = true then Q (.v (.bl true)) ρ' n' else GE c ρ' n' ds tb Q) : GE c ρ n ds (tOrV ta tb) Q := fun σ H vs F s k =>
  h σ H vs _ s fun it ρ' n' v H' ⟨b, e, q⟩ s' => by
    subst e
    obtain ⟨L, B, s'⟩ := s'
    cases s'.val
    have s2 := St.pop ⟨L, B, s'⟩
    refine ⟨b, rfl, ?_⟩
    cases b with
    | true => rw [if_pos rfl] at q ⊢; exact k _ _ _ _ _ q (s2.pushS rfl)
    | false => rw [if_neg Bool.false_ne_true] at q ⊢; exact q σ H' vs F s2 k
theorem notV_ {ta : TE} (h : GE c ρ n ds ta fun it ρ' n' => ∃ b, it = .v (.bl b) ∧ Q (.v (.bl (!b))) ρ' n') : GE c ρ n ds (tNotV ta) Q := fun σ H vs F s k =>
  h σ H vs _ s fun it ρ' n' v H' ⟨b, e, q⟩ s' => by
    subst e
    obtain ⟨L, B, s'⟩ := s'
    cases s'.val
    exact ⟨b, rfl, k _ _ _ _ _ q ((St.pop ⟨L, B, s'⟩).pushS rfl)⟩
theorem if_ {t : TT} {ta tb : TE} (h : GT c ρ n ds t fun b ρ' n' => if b = true then GE c ρ' n' ds ta Q else GE c ρ' n' ds tb Q) : GE c ρ n ds (tIf t ta tb) Q := fun σ H vs F s k =>
  h σ H vs _ s fun b ρ' n' H' q s' => by
    cases b with
    | true => rw [if_pos rfl] at q ⊢; exact q σ H' vs F s' k
    | false => rw [if_neg Bool.false_ne_true] at q ⊢; exact q σ H' vs F s' k
/-! ### targets -/
def clean (ds : List I) : Bool := ds.all fun i => !isB i
theorem IRs.clean {g : Addr} {M : Addr → Prop} {H : Hp} {σ σ' : L2.St} {ρ ρ' : List S} : ∀ {ds : List I} {l : List Addr} {w : List V}, clean ds = true → IRs K g M H ρ σ ds l w → IRs K g M H ρ' σ' ds l w
  | _, _, _, _, .nil => .nil
  | _, _, _, k, .cons a b => by
    simp only [HD.clean, List.all_cons, Bool.and_eq_true] at k
    refine .cons ?_ (IRs.clean k.2 b)
    cases a with
    | v r => exact .v r
    | o r => exact .o r
    | b _ _ => cases k.1
/-- what is stored in a slot -/
def put (i : Nat) (ρ : List S) : I → List S
  | .v d => ρ.set i (.v d)
  | .o d => ρ.set i (.ow d)
  | .b j d => (frz1 ρ (.b j d)).set i (.v d)
theorem StX.setV {L B : List Addr} {σ : L2.St} {H : Hp} {vs : List V} {v : V} {d : D} {i : Nat} (hc : clean ds = true) (hi : i < ρ.length) (s : StX c L B ρ n (.v d :: ds) σ H (v :: vs)) : ∃ L', StX c L' B (ρ.set i (.v d)) n ds (σ.set i (some v)) H vs := by
  have hv := s.val
  obtain ⟨sl, it, nd, fr, kp, hat, mg, ml, md⟩ := s
  cases it with
  | @cons _ l0 _ _ B2 _ a b =>
    cases a
    obtain ⟨L1, l, L2, x, e1, e2, e3, e4⟩ := sl.at (i := i) (s := ρ[i]) (List.getElem?_eq_getElem hi)
    subst e1
    have sub : ∀ b ∈ (L1 ++ ([] ++ L2)) ++ ([] ++ B2), b ∈ (L1 ++ (l ++ L2)) ++ ([] ++ B2) := fun b hb => by
      simp only [List.mem_append, List.nil_append] at hb ⊢
      rcases hb with (z | z) | z
      · exact .inl (.inl z)
      · exact .inl (.inr (.inr z))
      · exact .inr z
    have mv : Mv (Mo c ((L1 ++ (l ++ L2)) ++ ([] ++ B2))) (Mo c ((L1 ++ ([] ++ L2)) ++ ([] ++ B2))) H H := mv_less (mo_less sub)
    refine ⟨L1 ++ ([] ++ L2), (e4 (.v hv)).mv mv fun _ _ _ h => h, (b.mv mv fun _ _ _ h => h).clean hc, ?_, fun b hb => fr b (sub b hb), kp, hat, mg, ml, md⟩
    refine nd.sublist (List.Sublist.append ?_ (List.Sublist.refl _))
    exact (List.Sublist.refl L1).append (List.sublist_append_right l L2)
theorem StX.setO {L B : List Addr} {σ : L2.St} {H : Hp} {vs : List V} {v : V} {xs : D} {i : Nat} (hc : clean ds = true) (hi : i < ρ.length) (s : StX c L B ρ n (.o xs :: ds) σ H (v :: vs)) : ∃ L' B', StX c L' B' (ρ.set i (.ow xs)) n ds (σ.set i (some v)) H vs := by
  obtain ⟨sl, it, nd, fr, kp, hat, mg, ml, md⟩ := s
  cases it with
  | @cons _ l0 _ _ B2 _ a b =>
    cases a with
    | @o a _ ra =>
    obtain ⟨L1, l, L2, x, e1, e2, e3, e4⟩ := sl.at (i := i) (s := ρ[i]) (List.getElem?_eq_getElem hi)
    subst e1
    have sub : ∀ b ∈ (L1 ++ ([a] ++ L2)) ++ B2, b ∈ (L1 ++ (l ++ L2)) ++ ([a] ++ B2) := fun b hb => by
      simp only [List.mem_append, List.mem_singleton] at hb ⊢
      rcases hb with (z | z | z) | z
      · exact .inl (.inl z)
      · exact .inr (.inl z)
      · exact .inl (.inr (.inr z))
      · exact .inr (.inr z)
    have mv : Mv (Mo c ((L1 ++ (l ++ L2)) ++ ([a] ++ B2))) (Mo c ((L1 ++ ([a] ++ L2)) ++ B2)) H H := mv_less (mo_less sub)
    refine ⟨L1 ++ ([a] ++ L2), B2, (e4 (.ow ra)).mv mv fun _ _ _ h => h, (b.mv mv fun _ _ _ h => h).clean hc, ?_, fun b hb => fr b (sub b hb), kp, hat, mg, ml, md⟩
    have n1 : ((L1 ++ L2) ++ (a :: B2)).Nodup := nd.sublist (List.Sublist.append ((List.Sublist.refl L1).append (List.sublist_append_right l L2)) (List.Sublist.refl _))
    have p : ((L1 ++ ([a] ++ L2)) ++ B2).Perm ((L1 ++ L2) ++ (a :: B2)) := by
      have p1 : ((L1 ++ ([a] ++ L2)) ++ B2).Perm (a :: ((L1 ++ L2) ++ B2)) := by
        rw [show L1 ++ ([a] ++ L2) = L1 ++ a :: L2 from rfl, List.append_assoc, List.append_assoc]
        exact List.perm_middle
      exact p1.trans List.perm_middle.symm
    exact p.nodup_iff.mpr n1
theorem gname_ {i : Nat} {it : I} (hc : clean ds = true) (hi : Nat.blt i ρ.length = true) (h : QG (put i ρ it) n) : GG c ρ n ds (gName i) it QG := fun σ H vs v F s k => by
  have hi : i < ρ.length := Nat.le_of_ble_eq_true hi
  cases it with
  | v d =>
    obtain ⟨L, B, s⟩ := s
    obtain ⟨L', s⟩ := s.setV hc hi
    exact k _ _ _ _ h ⟨L', B, s⟩
  | o xs =>
    obtain ⟨L, B, s⟩ := s
    obtain ⟨L', B', s⟩ := s.setO hc hi
    exact k _ _ _ _ h ⟨L', B', s⟩
  | b j xs =>
    obtain ⟨L, B, s⟩ := s.frz1
    have hi2 : i < (frz1 ρ (.b j xs)).length := by
      unfold frz1
      dsimp only
      split
      · rw [List.length_set]; exact hi
      · rw [List.length_set]; exact hi
      · exact hi
    obtain ⟨L', s⟩ := s.setV hc hi2
    exact k _ _ _ _ h ⟨L', B, s⟩
theorem gnil_ (h : QG ρ n) : GGs c ρ n ds gNil [] QG := fun σ H vs xs F hl s k => by
  cases xs with
  | nil => exact ⟨rfl, k _ _ _ _ h s⟩
  | cons _ _ => cases hl
theorem gcons_ {g : TG} {gs : TGs} {it : I} {its : List I} (h : GG c ρ n (its ++ ds) g it fun ρ1 n1 => GGs c ρ1 n1 ds gs its QG) : GGs c ρ n ds (gCons g gs) (it :: its) QG := fun σ H vs xs F hl s k => by
  cases xs with
  | nil => cases hl
  | cons x xs =>
    refine ⟨x, xs, rfl, ?_⟩
    exact h σ H (xs ++ vs) x _ s fun ρ1 n1 σ1 H1 q s1 => q σ1 H1 vs xs F (by simpa using hl) s1 k
theorem St.elems {σ : L2.St} {H : Hp} {vs : List V} {L B : List Addr} : ∀ {ws : List V} {xs : List D}, StX c L B ρ n ds σ H vs → RA K c.g (Mo c (L ++ B)) H ws xs → StX c L B ρ n (xs.map I.v ++ ds) σ H (ws ++ vs)
  | _, _, s, .nil => s
  | _, _, s, .cons a b => (St.elems s b).pushR a
theorem gtup_ {m : Nat} {gs : TGs} {xs : List D} (hl : xs.length = m) (h : GGs c ρ n ds gs (xs.map I.v) QG) : GG c ρ n ds (gTup K m gs) (.v (.tup xs)) QG := fun σ H vs v F ⟨L, B, s⟩ k => by
  cases s.val with
  | @tup a ws _ hs ra =>
    obtain ⟨B', s2⟩ := s.pop
    have s0 : St c ρ n ds σ H vs := St.pop ⟨L, B, s⟩
    refine ⟨a, ws, rfl, hs.sqt, by rw [ra.len, hl], ?_⟩
    have s3 : StX c L B ρ n ds σ H vs := by
      cases hit : s.it with
      | cons a b => cases a; exact ⟨s.sl, b, s.nd, s.fr, s.kp, s.hat, s.mg, s.ml, s.md⟩
    exact h σ H vs ws F (by rw [ra.len, List.length_map]) ⟨L, B, St.elems s3 ra⟩ k
theorem StX.lsp {σ : L2.St} {H : Hp} {vs : List V} {v : V} {L B : List Addr} {it : I} {xs : List D} (s : StX c L B ρ n (it :: ds) σ H (v :: vs)) (e : it.val = .lst xs) : ∃ a ws B', v = .ref a ∧ H a = some (.lst ws) ∧ StX c L B' ρ n ds σ H vs ∧ RA K c.g (Mo c (L ++ B')) H ws xs := by
  obtain ⟨a, ws, e1, e2, e3⟩ := s.ls e
  cases hit : s.it with
  | @cons _ l _ _ B2 _ x b =>
    have sub : ∀ b ∈ L ++ B2, b ∈ L ++ (l ++ B2) := fun b hb => by
      simp only [List.mem_append] at hb ⊢
      rcases hb with z | z
      · exact .inl z
      · exact .inr (.inr z)
    have mv : Mv (Mo c (L ++ (l ++ B2))) (Mo c (L ++ B2)) H H := mv_less (mo_less sub)
    exact ⟨a, ws, B2, e1, e2, ⟨s.sl.mv mv fun _ _ _ h => h, b.mv mv fun _ _ _ h => h, s.nd.sublist ((List.Sublist.refl L).append (List.sublist_append_right l B2)), fun b hb => s.fr b (sub b hb), s.kp, s.hat, s.mg, s.ml, s.md⟩, e3.mv mv⟩
theorem gunl_ {m : Nat} {gs : TGs} {it : I} {xs : List D} (e : it.val = .lst xs) (hl : xs.length = m) (h : GGs c ρ n ds gs (xs.map I.v) QG) : GG c ρ n ds (gUnl K m gs) it QG := fun σ H vs v F ⟨L, B, s⟩ k => by
  obtain ⟨a, ws, B', e1, e2, s2, ra⟩ := s.lsp e
  exact ⟨a, ws, e1, SqL.of e2, by rw [ra.len, hl], h σ H vs ws F (by rw [ra.len, List.length_map]) ⟨L, B', St.elems s2 ra⟩ k⟩
theorem par_ {i j : Nat} {ta : TA} {nx bk ct : QS} {rt : I → Nat → Prop} (h : GA c ρ n ds ta fun its ρ' n' => ∃ a b, its = [a, b] ∧ GG c ρ' n' (b :: ds) (gName i) a fun ρ2 n2 => GG c ρ2 n2 ds (gName j) b nx) : GS c ρ n ds (tPar i j ta) ⟨nx, rt, bk, ct⟩ := fun σ H vs E s k =>
  h σ H vs _ s fun its ρ' n' xs H' ⟨a, b, e, q⟩ hl s' => by
    subst e
    match xs, hl with
    | [x, y], _ => exact ⟨x, y, rfl, q σ H' (y :: vs) x (fun σ1 H1 => E.nx (σ1.set j (some y)) H1) s' fun ρ2 n2 σ2 H2 q2 s2 => q2 σ2 H2 vs y E.nx s2 fun ρ3 n3 σ3 H3 q3 s3 => k.nx _ _ _ _ q3 s3⟩
theorem par3_ {i j l : Nat} {ta : TA} {nx bk ct : QS} {rt : I → Nat → Prop} (h : GA c ρ n ds ta fun its ρ' n' => ∃ a b d, its = [a, b, d] ∧ GG c ρ' n' (b :: d :: ds) (gName i) a fun ρ2 n2 => GG c ρ2 n2 (d :: ds) (gName j) b fun ρ3 n3 => GG c ρ3 n3 ds (gName l) d nx) : GS c ρ n ds (tPar3 i j l ta) ⟨nx, rt, bk, ct⟩ := fun σ H vs E s k =>
  h σ H vs _ s fun its ρ' n' xs H' ⟨a, b, d, e, q⟩ hl s' => by
    subst e
    match xs, hl with
    | [x, y, z], _ => exact ⟨x, y, z, rfl, q σ H' (y :: z :: vs) x (fun σ1 H1 => E.nx ((σ1.set j (some y)).set l (some z)) H1) s' fun ρ2 n2 σ2 H2 q2 s2 => q2 σ2 H2 (z :: vs) y (fun σ1 H1 => E.nx (σ1.set l (some z)) H1) s2 fun ρ3 n3 σ3 H3 q3 s3 => q3 σ3 H3 vs z E.nx s3 fun ρ4 n4 σ4 H4 q4 s4 => k.nx _ _ _ _ q4 s4⟩
/-! ### calls of defs -/
abbrev XD := Addr → Option (List (Str × D)) → Nat → Prop
abbrev SpD := List D → Nat → (I → Nat → Prop) → XD → Prop
def XR (c : Wd K) (H : Hp) : Option Addr → Option (List (Str × D)) → Prop
  | none, none => True
  | some d, some fs => ∃ fv, ¬ c.M0 d ∧ H d = some (.xd fv) ∧ RF K c.g c.M0 H fv fs
  | _, _ => False
structure CallOk (c : Wd K) (H : Hp) (n : Nat) (vs : List V) (ds : List D) (Q : VK) (E : XK) (Qd : I → Nat → Prop) (Ed : XD) : Prop where
  h0 : c.H0 = H
  hat : Hat H c.g c.k c.ns n
  mg : c.M0 c.g
  ml : c.M0 c.k
  md : ∀ a, c.M0 a → ∃ o, H a = some o
  ra : RA K c.g c.M0 H vs ds
  q : ∀ it n' v H', Qd it n' → Kept c.g H H' → Hat H' c.g c.k c.ns n' → Rt c H' v it → Q v H'
  e : ∀ C fs n' x H', Ed C fs n' → Kept c.g H H' → Hat H' c.g c.k c.ns n' → XR c H' x fs → E (.ref C) x H'
def lift (K : PySem.W.Frag) (sp : SpD) : Sp := fun vs H Q E => ∃ (c : Wd K) (n : Nat) (ds : List D) (Qd : I → Nat → Prop) (Ed : XD), CallOk c H n vs ds Q E Qd Ed ∧ sp ds n Qd Ed
theorem enter {H : Hp} {vs : List V} {ds : List D} {Q : VK} {E : XK} {Qd : I → Nat → Prop} {Ed : XD} {t : TS} {N : List Str} (k : CallOk c H n vs ds Q E Qd Ed) (e : ds.map S.v ++ List.replicate (N.length - ds.length) S.un = ρ)
    (h : GS c ρ n [] t ⟨fun _ n' => Qd (.v .non) n', Qd, fun _ _ => False, fun _ _ => False⟩) : t { nx := fun _ H' => Q .non H', rt := Q } (L2.start N vs) H := by
  have hl := k.ra.len
  refine h (L2.start N vs) H [] _ ⟨[], [], ?_, .nil, .nil, fun a h => (by cases h), ?_, k.hat, k.mg, k.ml, fun a h => (by rw [k.h0]; exact k.md a h)⟩ ⟨fun ρ n σ H q ⟨L, B, s⟩ => ?_, fun it n v H q k1 k2 k3 => ?_, fun _ _ _ _ q => q.elim, fun _ _ _ _ q => q.elim⟩
  · rw [← e]
    unfold L2.start
    rw [hl]
    have m : Mo c (([] : List Addr) ++ []) = c.M0 := by
      funext a
      exact propext ⟨fun z => z.elim id (fun z => by cases z), .inl⟩
    rw [m]
    have ra := k.ra
    clear k e h hl
    have un : ∀ m : Nat, SRs K c.g c.M0 H (List.replicate m S.un) [] (List.replicate m none) := fun m => by
      induction m with
      | zero => exact .nil
      | succ m ih => exact .cons (l := []) (.un _) ih
    generalize N.length - ds.length = m
    have go : ∀ {vs : List V} {ds : List D}, RA K c.g c.M0 H vs ds → SRs K c.g c.M0 H (ds.map S.v ++ List.replicate m S.un) [] (vs.map some ++ List.replicate m none) := by
      intro vs ds ra
      induction ds generalizing vs with
      | nil => cases ra; exact un m
      | cons d ds ih => cases ra with | cons a b => exact .cons (l := []) (.v a) (ih b)
    exact go ra
  · rw [k.h0]; exact Kept.refl _ _
  · exact k.q _ _ _ _ q (by have := s.kp; rw [k.h0] at this; exact this) s.hat .non
  · exact k.q _ _ _ _ q (by rw [k.h0] at k1; exact k1) k2 k3
theorem call_ {sp : SpD} {t : TA} (h : GA c ρ n ds t fun its ρ' n' => sp (its.map I.val) n' (fun it n2 => Q it (frz its ρ') n2) fun _ _ _ => False) : GE c ρ n ds (tCall (lift K sp) [] E0 t) Q := fun σ H vs F s k =>
  h σ H vs _ s fun its ρ' n' xs H' q hl s' => by
    obtain ⟨L, B, s2, ra⟩ := items hl s'
    rw [List.append_nil]
    refine ⟨⟨c.g, c.k, c.ns, Mo c (L ++ B), H'⟩, n', _, _, _, ⟨rfl, s2.hat, .inl s2.mg, .inl s2.ml, s2.at, ra, fun it m v H2 q2 k2 h2 r2 => ?_, fun C fs n' x H' z => z.elim⟩, q⟩
    have s3 := s2.kept k2 h2
    cases it with
    | v d => exact k _ _ _ _ _ q2 ⟨L, B, s3.pushR r2⟩
    | b _ _ => exact r2.elim
    | o ys =>
      obtain ⟨p, rfl, hp, np, rr⟩ := r2
      have hp : H' p = none := hp
      have np : ¬ Mo c (L ++ B) p := np
      have npl : p ∉ L ++ B := fun z => np (.inr z)
      have hc : c.H0 p = none := by
        cases z : c.H0 p with
        | none => rfl
        | some o =>
          have : p ≠ c.g := fun e => np (.inl (e ▸ s2.mg))
          have := s2.kp _ _ this z
          rw [hp] at this; cases this
      have mv : Mv (Mo c (L ++ B)) (Mo c (L ++ ([p] ++ B))) H' H2 := fun a o na ho => by
        have ng : a ≠ c.g := fun e => na (.inl (e ▸ s2.mg))
        refine ⟨fun z => ?_, k2 a o ng ho⟩
        rcases z with z | z
        · exact na (.inl z)
        · simp only [List.mem_append, List.mem_singleton] at z
          rcases z with z | z | z
          · exact na (.inr (List.mem_append_left _ z))
          · rw [z, hp] at ho; cases ho
          · exact na (.inr (List.mem_append_right _ z))
      have hk : ∀ a ∈ L ++ B, ∀ o, H' a = some o → H2 a = some o := fun a ha o ho => k2 a o (fun z => (s2.fr a ha).1 (z ▸ s2.mg)) ho
      refine k _ _ _ _ _ q2 ⟨L, [p] ++ B, s2.sl.mv mv fun a ha => hk a (List.mem_append_left _ ha), .cons (l := [p]) (.o (rr.mv (mv_less fun a ha => ?_) fun _ h => h)) (s2.it.mv mv fun a ha => hk a (List.mem_append_right _ ha)), ?_, fun a ha => ?_, s3.kp, s3.hat, s3.mg, s3.ml, s3.md⟩
      · rcases ha with ha | ha
        · exact .inl (.inl ha)
        · simp only [List.mem_append, List.mem_singleton] at ha
          rcases ha with z | z | z
          · exact .inl (.inr (List.mem_append_left _ z))
          · exact .inr z
          · exact .inl (.inr (List.mem_append_right _ z))
      · exact (List.perm_middle (a := p) (l₁ := L) (l₂ := B)).nodup_iff.mpr (List.nodup_cons.mpr ⟨npl, s2.nd⟩)
      · simp only [List.mem_append, List.mem_singleton] at ha
        rcases ha with z | z | z
        · exact s2.fr a (List.mem_append_left _ z)
        · rw [z]; exact ⟨fun q => np (.inl q), hc⟩
        · exact s2.fr a (List.mem_append_right _ z)
end
end HD
/-! loops and comprehensions -/
namespace HD
open PySem PySem.Spec PyProof.Rows L2 HX
section
variable {K : PySem.W.Frag} {c : Wd K} {ρ : List S} {n : Nat} {ds : List I} {L B : List Addr} {σ : L2.St} {H H' : Hp} {vs : List V} {v : V} {p : Addr}
theorem IRs.mid {g : Addr} {M : Addr → Prop} {it : I} : ∀ {ex : List I} {ews : List V} {ds : List I} {vs : List V} {B : List Addr} {w : V}, ews.length = ex.length → IRs K g M H ρ σ (ex ++ it :: ds) B (ews ++ w :: vs) → ∃ l, IR K g M H ρ σ it l w
  | [], [], _, _, _, _, _, h => by cases h with | cons a b => exact ⟨_, a⟩
  | e :: ex, w :: ws, _, _, _, _, hl, h => by cases h with | cons a b => exact IRs.mid (by simpa using hl) b
theorem StX.peek {ex : List I} {ews : List V} {d : D} {w : V} (hl : ews.length = ex.length) (s : StX c L B ρ n (ex ++ .v d :: ds) σ H (ews ++ w :: vs)) : R K c.g (Mo c (L ++ B)) H w d := by
  obtain ⟨l, h⟩ := s.it.mid hl
  cases h with | v r => exact r
theorem mv_own {l : List Addr} {a : Addr} {o : HO} (ha : a ∈ l) : Mv (Mo c l) (Mo c l) H (upd H a o) := fun b u nb hb => ⟨nb, by
  have : b ≠ a := fun e => nb (.inr (by rw [e]; exact ha))
  rw [upd_ne this]; exact hb⟩
/-- the topmost item is a thing of nobody's: it is changed -/
theorem StX.wrO {d : D} (s : StX c L B ρ n (.o d :: ds) σ H (v :: vs)) : ∃ a, v = .ref a ∧ RO K c.g (Mo c (L ++ B)) H a d ∧ ∀ {t : D} {o : HO}, (Mv (Mo c (L ++ B)) (Mo c (L ++ B)) H (upd H a o) → RO K c.g (Mo c (L ++ B)) (upd H a o) a t) → StX c L B ρ n (.o t :: ds) σ (upd H a o) (v :: vs) := by
  cases hit : s.it with
  | @cons _ l _ _ B2 _ x b =>
    cases x with
    | @o a _ ra =>
      refine ⟨a, rfl, ra, fun {t o} r => ?_⟩
      have hm : a ∈ L ++ ([a] ++ B2) := by simp
      have mv : Mv (Mo c (L ++ ([a] ++ B2))) (Mo c (L ++ ([a] ++ B2))) H (upd H a o) := mv_own hm
      have nd := (List.nodup_cons.mp ((List.perm_middle (a := a) (l₁ := L) (l₂ := B2)).nodup_iff.mp s.nd)).1
      have hk : ∀ b ∈ L ++ B2, ∀ u, H b = some u → (upd H a o) b = some u := fun b hb u ho => by
        have : b ≠ a := fun e => nd (by rw [← e]; exact hb)
        rw [upd_ne this]; exact ho
      have hag : a ≠ c.g := fun e => (s.fr a hm).1 (e ▸ s.mg)
      have hak : a ≠ c.k := fun e => (s.fr a hm).1 (e ▸ s.ml)
      refine ⟨s.sl.mv mv fun b hb => hk b (List.mem_append_left _ hb), .cons (l := [a]) (.o (r mv)) (b.mv mv fun b hb => hk b (List.mem_append_right _ hb)), s.nd, s.fr, ?_, s.hat.upd hag hak, s.mg, s.ml, s.md⟩
      exact fun b u nb hb => by
        have : b ≠ a := fun e => by have := (s.fr a hm).2; rw [← e, hb] at this; cases this
        rw [upd_ne this]
        exact s.kp b u nb hb
/-- what slot i owns is changed -/
theorem StX.wrS {i : Nat} {d : D} (hc : clean ds = true) (s : StX c L B ρ n ds σ H vs) (hi : ρ[i]? = some (.ow d)) : ∃ a, σ[i]? = some (some (.ref a)) ∧ RO K c.g (Mo c (L ++ B)) H a d ∧ ∀ {t : D} {o : HO}, (Mv (Mo c (L ++ B)) (Mo c (L ++ B)) H (upd H a o) → RO K c.g (Mo c (L ++ B)) (upd H a o) a t) → StX c L B (ρ.set i (.ow t)) n ds σ (upd H a o) vs := by
  have hl : i < ρ.length := (List.getElem?_eq_some_iff.mp hi).1
  obtain ⟨L1, l, L2, x, e1, e2, e3, e4⟩ := s.sl.atM hi
  cases e3 with
  | @ow a _ ra =>
    subst e1
    refine ⟨a, e2, ra, fun {t o} r => ?_⟩
    have hm : a ∈ (L1 ++ ([a] ++ L2)) ++ B := by simp
    have mv : Mv (Mo c ((L1 ++ ([a] ++ L2)) ++ B)) (Mo c ((L1 ++ ([a] ++ L2)) ++ B)) H (upd H a o) := mv_own hm
    have pm : ((L1 ++ ([a] ++ L2)) ++ B).Perm (a :: ((L1 ++ L2) ++ B)) := by
      rw [show L1 ++ ([a] ++ L2) = L1 ++ a :: L2 from rfl, List.append_assoc, List.append_assoc]
      exact List.perm_middle
    have nd := (List.nodup_cons.mp (pm.nodup_iff.mp s.nd)).1
    have hk : ∀ b ∈ (L1 ++ L2) ++ B, ∀ u, H b = some u → (upd H a o) b = some u := fun b hb u ho => by
      have : b ≠ a := fun e => nd (by rw [← e]; exact hb)
      rw [upd_ne this]; exact ho
    have hag : a ≠ c.g := fun e => (s.fr a hm).1 (e ▸ s.mg)
    have hak : a ≠ c.k := fun e => (s.fr a hm).1 (e ▸ s.ml)
    have sl1 := e4 (l' := [a]) mv (fun b hb => hk b (List.mem_append_left _ hb)) (SR.ow (r mv))
    rw [show σ.set i (some (V.ref a)) = σ by
      obtain ⟨h1, h2⟩ := List.getElem?_eq_some_iff.mp e2
      rw [← h2, List.set_getElem_self]] at sl1
    refine ⟨sl1, (s.it.mv mv fun b hb => hk b (List.mem_append_right _ hb)).clean hc, s.nd, s.fr, ?_, s.hat.upd hag hak, s.mg, s.ml, s.md⟩
    exact fun b u nb hb => by
      have : b ≠ a := fun e => by have := (s.fr a hm).2; rw [← e, hb] at this; cases this
      rw [upd_ne this]
      exact s.kp b u nb hb
/-- the object itself is changed -/
theorem StX.wrM {i : Nat} {a : Addr} {d : D} (hc : clean ds = true) (s : StX c L B ρ n ds σ H vs) (hi : ρ[i]? = some (.me a d)) : σ[i]? = some (some (.ref a)) ∧ RO K c.g (Mo c (L ++ B)) H a d ∧ ∀ {t : D} {o : HO}, (Mv (Mo c (L ++ B)) (Mo c (L ++ B)) H (upd H a o) → RO K c.g (Mo c (L ++ B)) (upd H a o) a t) → StX c L B (ρ.set i (.me a t)) n ds σ (upd H a o) vs := by
  have hl : i < ρ.length := (List.getElem?_eq_some_iff.mp hi).1
  obtain ⟨L1, l, L2, x, e1, e2, e3, e4⟩ := s.sl.atM hi
  cases e3 with
  | me ra =>
    subst e1
    refine ⟨e2, ra, fun {t o} r => ?_⟩
    have hm : a ∈ (L1 ++ ([a] ++ L2)) ++ B := by simp
    have mv : Mv (Mo c ((L1 ++ ([a] ++ L2)) ++ B)) (Mo c ((L1 ++ ([a] ++ L2)) ++ B)) H (upd H a o) := mv_own hm
    have pm : ((L1 ++ ([a] ++ L2)) ++ B).Perm (a :: ((L1 ++ L2) ++ B)) := by
      rw [show L1 ++ ([a] ++ L2) = L1 ++ a :: L2 from rfl, List.append_assoc, List.append_assoc]
      exact List.perm_middle
    have nd := (List.nodup_cons.mp (pm.nodup_iff.mp s.nd)).1
    have hk : ∀ b ∈ (L1 ++ L2) ++ B, ∀ u, H b = some u → (upd H a o) b = some u := fun b hb u ho => by
      have : b ≠ a := fun e => nd (by rw [← e]; exact hb)
      rw [upd_ne this]; exact ho
    have hag : a ≠ c.g := fun e => (s.fr a hm).1 (e ▸ s.mg)
    have hak : a ≠ c.k := fun e => (s.fr a hm).1 (e ▸ s.ml)
    have sl1 := e4 (l' := [a]) mv (fun b hb => hk b (List.mem_append_left _ hb)) (SR.me (r mv))
    rw [show σ.set i (some (V.ref a)) = σ by
      obtain ⟨h1, h2⟩ := List.getElem?_eq_some_iff.mp e2
      rw [← h2, List.set_getElem_self]] at sl1
    refine ⟨sl1, (s.it.mv mv fun b hb => hk b (List.mem_append_right _ hb)).clean hc, s.nd, s.fr, ?_, s.hat.upd hag hak, s.mg, s.ml, s.md⟩
    exact fun b u nb hb => by
      have : b ≠ a := fun e => by have := (s.fr a hm).2; rw [← e, hb] at this; cases this
      rw [upd_ne this]
      exact s.kp b u nb hb
/-- what a walk yields while the pinned items stand -/
structure Wk (c : Wd K) (pin : List I) (ds : List I) (ws vs : List V) (J : It) (xs : List D) : Prop where
  go : ∀ (i : Nat) (ρ : List S) (n : Nat) (ex : List I) (σ : L2.St) (H : Hp) (ews : List V), i < xs.length → ews.length = ex.length → St c ρ n (ex ++ (pin ++ ds)) σ H (ews ++ (ws ++ vs)) → J.go i H
  yl : ∀ (i : Nat) (d : D) (ρ : List S) (n : Nat) (ex : List I) (σ : L2.St) (H : Hp) (ews : List V) (x : V) (H' : Hp), xs[i]? = some d → ews.length = ex.length → St c ρ n (ex ++ (pin ++ ds)) σ H (ews ++ (ws ++ vs)) → J.yld i H x H' → St c ρ n (.v d :: (ex ++ (pin ++ ds))) σ H' (x :: (ews ++ (ws ++ vs)))
  st : ∀ (ρ : List S) (n : Nat) (ex : List I) (σ : L2.St) (H : Hp) (ews : List V), ews.length = ex.length → St c ρ n (ex ++ (pin ++ ds)) σ H (ews ++ (ws ++ vs)) → J.stop xs.length H
def GI (c : Wd K) (ρ : List S) (n : Nat) (ds : List I) (wi : TI) (Q : List I → List D → QS) : Prop :=
  ∀ σ H vs (F : It → Hp → Prop), St c ρ n ds σ H vs → (∀ pin xs ρ' n' ws J H', Q pin xs ρ' n' → ws.length = pin.length → St c ρ' n' (pin ++ ds) σ H' (ws ++ vs) → (∀ ds vs, Wk c pin ds ws vs J xs) → F J H') → wi σ H F
theorem St.pops {ex : List I} {ews : List V} (hl : ews.length = ex.length) (s : St c ρ n (ex ++ ds) σ H (ews ++ vs)) : St c ρ n ds σ H vs := by
  induction ex generalizing ews with
  | nil => cases ews with
    | nil => exact s
    | cons _ _ => cases hl
  | cons e ex ih => cases ews with
    | nil => cases hl
    | cons w ews => exact ih (by simpa using hl) (St.pop s)
def ForD (c : Wd K) (ds : List I) (g : TG) (tb : TS) (Z : Es) : List D → QS
  | [] => Z.nx
  | x :: xs => fun ρ n => GG c ρ n ds g (.v x) fun ρ1 n1 => GS c ρ1 n1 ds tb ⟨ForD c ds g tb Z xs, Z.rt, Z.nx, ForD c ds g tb Z xs⟩
theorem for_ {wi : TI} {g : TG} {tb : TS} {nx bk ct : QS} {rt : I → Nat → Prop} (h : GI c ρ n ds wi fun pin xs ρ' n' => ForD c (pin ++ ds) g tb ⟨nx, rt, bk, ct⟩ xs ρ' n') : GS c ρ n ds (tFor wi g tb) ⟨nx, rt, bk, ct⟩ := fun σ H vs E s k =>
  h σ H vs _ s fun pin xs ρ' n' ws J H' q hl s' w => by
    have w := w ds vs
    refine ⟨fun i m σ H => m = xs.length - i ∧ i ≤ xs.length ∧ ∃ ρ n, ForD c (pin ++ ds) g tb ⟨nx, rt, bk, ct⟩ (xs.drop i) ρ n ∧ St c ρ n (pin ++ ds) σ H (ws ++ vs), ⟨xs.length, rfl, Nat.zero_le _, ρ', n', q, s'⟩, ?_⟩
    rintro i m σ H ⟨rfl, hi, ρ, n, f, s⟩
    by_cases hlt : i < xs.length
    · refine .inr ⟨w.go i ρ n [] σ H [] hlt rfl s, fun σ H => ∃ ρ n, ForD c (pin ++ ds) g tb ⟨nx, rt, bk, ct⟩ (xs.drop (i + 1)) ρ n ∧ St c ρ n (pin ++ ds) σ H (ws ++ vs), fun σ' H' ⟨ρ, n, f, s⟩ => ⟨_, by omega, rfl, hlt, ρ, n, f, s⟩, fun x H' y => ?_⟩
      have s2 := w.yl i xs[i] ρ n [] σ H [] x H' (List.getElem?_eq_getElem hlt) rfl s y
      rw [List.drop_eq_getElem_cons hlt] at f
      refine f σ H' (ws ++ vs) x _ s2 fun ρ1 n1 σ1 H1 q1 s1 => q1 σ1 H1 (ws ++ vs) _ s1 ⟨fun ρ n σ H q s => ⟨ρ, n, q, s⟩, k.rt, fun ρ n σ H q s => k.nx _ _ _ _ q (St.pops hl s), fun ρ n σ H q s => ⟨ρ, n, q, s⟩⟩
    · have e : i = xs.length := by omega
      subst e
      rw [List.drop_length] at f
      exact .inl ⟨w.st ρ n [] σ H [] rfl s, k.nx _ _ _ _ f (St.pops hl s)⟩
/-- a loop by its invariant -/
theorem ForD.inv {g : TG} {tb : TS} {Z : Es} {xs : List D} (P : Nat → QS) (h0 : P 0 ρ n) (hs : ∀ i x ρ n, xs[i]? = some x → i < xs.length → P i ρ n → GG c ρ n ds g (.v x) fun ρ1 n1 => GS c ρ1 n1 ds tb ⟨P (i + 1), Z.rt, Z.nx, P (i + 1)⟩) (hd : ∀ ρ n, P xs.length ρ n → Z.nx ρ n) : ForD c ds g tb Z xs ρ n := by
  have go : ∀ (k : Nat) (ρ : List S) (n : Nat), k ≤ xs.length → P k ρ n → ForD c ds g tb Z (xs.drop k) ρ n := by
    intro k
    generalize hm : xs.length - k = m
    induction m generalizing k with
    | zero =>
      intro ρ n hk p
      have : k = xs.length := by omega
      subst this
      rw [List.drop_length]
      exact hd _ _ p
    | succ m ih =>
      intro ρ n hk p
      have hlt : k < xs.length := by omega
      rw [List.drop_eq_getElem_cons hlt]
      intro σ H vs v F s kk
      refine hs k xs[k] ρ n (List.getElem?_eq_getElem hlt) hlt p σ H vs v F s fun ρ1 n1 σ1 H1 q s1 => kk _ _ _ _ (q.mono (fun ρ n z => ih (k + 1) (by omega) ρ n hlt z) (fun _ _ z => z) (fun _ _ z => z) (fun ρ n z => ih (k + 1) (by omega) ρ n hlt z)) s1
  exact go 0 ρ n (Nat.zero_le _) h0
theorem forN_ {g : TG} {tb : TS} {Z : Es} (h : Z.nx ρ n) : ForD c ds g tb Z [] ρ n := h
theorem forC_ {g : TG} {tb : TS} {Z : Es} {x : D} {xs : List D} (h : GG c ρ n ds g (.v x) fun ρ1 n1 => GS c ρ1 n1 ds tb ⟨ForD c ds g tb Z xs, Z.rt, Z.nx, ForD c ds g tb Z xs⟩) : ForD c ds g tb Z (x :: xs) ρ n := h
/-! ### what is walked -/
theorem ilst_ {te : TE} {Q : List I → List D → QS} (h : GE c ρ n ds te fun it ρ' n' => ∃ xs, it.val = .lst xs ∧ Q [.v (.lst xs)] xs (frz1 ρ' it) n') : GI c ρ n ds (iList K te) Q := fun σ H vs F s k =>
  h σ H vs _ s fun it ρ' n' v H' ⟨xs, e, q⟩ s' => by
    have s2 := s'.frz1
    rw [e] at s2
    obtain ⟨L, B, s3⟩ := s'
    obtain ⟨a, ws, rfl, ha, _⟩ := s3.ls e
    have main : ∀ {ds : List I} {vs : List V} {ρ : List S} {n : Nat} {ex : List I} {σ : L2.St} {H : Hp} {ews : List V}, ews.length = ex.length → St c ρ n (ex ++ ([.v (.lst xs)] ++ ds)) σ H (ews ++ ([.ref a] ++ vs)) → ∃ L B ws, StX c L B ρ n (ex ++ ([.v (.lst xs)] ++ ds)) σ H (ews ++ ([.ref a] ++ vs)) ∧ H a = some (.lst ws) ∧ RA K c.g (Mo c (L ++ B)) H ws xs := by
      intro ds vs ρ n ex σ H ews hl ⟨L, B, s⟩
      have := s.peek (d := .lst xs) (w := .ref a) hl
      cases this with
      | lst _ h r => exact ⟨L, B, _, s, h, r⟩
    refine ⟨a, rfl, ⟨ws, SqL.of ha⟩, k [.v (.lst xs)] xs _ n' [.ref a] _ H' q rfl s2 fun ds vs => ⟨?_, ?_, ?_⟩⟩
    · intro i ρ n ex σ H ews hi hl s
      obtain ⟨L, B, ws, s, ha, r⟩ := main hl s
      have hi2 : i < ws.length := by rw [r.len]; exact hi
      exact ⟨ws, ws[i], SqL.of ha, List.getElem?_eq_getElem hi2⟩
    · intro i d ρ n ex σ H ews x H' hd hl s ⟨eH, y⟩
      obtain ⟨L, B, ws, s, ha, r⟩ := main hl s
      subst eH
      obtain ⟨w, hw, rw'⟩ := r.at hd
      have := y ws (SqL.of ha)
      rw [hw] at this
      cases this
      exact ⟨L, B, s.pushR rw'⟩
    · intro ρ n ex σ H ews hl s
      obtain ⟨L, B, ws, s, ha, r⟩ := main hl s
      exact ⟨ws, SqL.of ha, by rw [r.len]; exact Nat.le_refl _⟩
theorem itup_ {te : TE} {Q : List I → List D → QS} (h : GE c ρ n ds te fun it ρ' n' => ∃ xs, it = .v (.tup xs) ∧ Q [.v (.tup xs)] xs ρ' n') : GI c ρ n ds (iTup K te) Q := fun σ H vs F s k =>
  h σ H vs _ s fun it ρ' n' v H' ⟨xs, e, q⟩ s' => by
    subst e
    have s2 := s'
    obtain ⟨L, B, s3⟩ := s'
    cases s3.val with
    | @tup a ws _ ha ra =>
    have main : ∀ {ds : List I} {vs : List V} {ρ : List S} {n : Nat} {ex : List I} {σ : L2.St} {H : Hp} {ews : List V}, ews.length = ex.length → St c ρ n (ex ++ ([.v (.tup xs)] ++ ds)) σ H (ews ++ ([.ref a] ++ vs)) → ∃ L B ws, StX c L B ρ n (ex ++ ([.v (.tup xs)] ++ ds)) σ H (ews ++ ([.ref a] ++ vs)) ∧ SqT K H a ws ∧ RA K c.g (Mo c (L ++ B)) H ws xs := by
      intro ds vs ρ n ex σ H ews hl ⟨L, B, s⟩
      have := s.peek (d := .tup xs) (w := .ref a) hl
      cases this with
      | tup h r => exact ⟨L, B, _, s, h.sqt, r⟩
    refine ⟨a, rfl, ⟨ws, ha.sqt⟩, k [.v (.tup xs)] xs _ n' [.ref a] _ H' q rfl s2 fun ds vs => ⟨?_, ?_, ?_⟩⟩
    · intro i ρ n ex σ H ews hi hl s
      obtain ⟨L, B, ws, s, ha, r⟩ := main hl s
      have hi2 : i < ws.length := by rw [r.len]; exact hi
      exact ⟨ws, ws[i], ha, List.getElem?_eq_getElem hi2⟩
    · intro i d ρ n ex σ H ews x H' hd hl s ⟨eH, y⟩
      obtain ⟨L, B, ws, s, ha, r⟩ := main hl s
      subst eH
      obtain ⟨w, hw, rw'⟩ := r.at hd
      have := y ws ha
      rw [hw] at this
      cases this
      exact ⟨L, B, s.pushR rw'⟩
    · intro ρ n ex σ H ews hl s
      obtain ⟨L, B, ws, s, ha, r⟩ := main hl s
      exact ⟨ws, ha, by rw [r.len]; exact Nat.le_refl _⟩
/-- lo, lo + 1, .. -/
def rngD (lo : Int) (m : Nat) : List D := (List.range m).map fun (i : Nat) => D.int (lo + (i : Int))
theorem rngD_len {lo : Int} {m : Nat} : (rngD lo m).length = m := by unfold rngD; rw [List.length_map, List.length_range]
theorem rngD_at {lo : Int} {m i : Nat} {d : D} (h : (rngD lo m)[i]? = some d) : i < m ∧ d = .int (lo + (i : Int)) := by
  unfold rngD at h
  rw [List.getElem?_map] at h
  have hi : i < m := by
    rcases Nat.lt_or_ge i m with z | z
    · exact z
    · rw [List.getElem?_eq_none (by simpa using z)] at h; cases h
  rw [List.getElem?_range hi] at h
  exact ⟨hi, (Option.some.inj h).symm⟩
theorem wk_range {lo : Int} {m : Nat} {vs : List V} : Wk c [] ds [] vs (Itr lo m) (rngD lo m) := by
  refine ⟨?_, ?_, ?_⟩
  · intro i ρ n ex σ H ews hi _ _
    rw [rngD_len] at hi; exact hi
  · intro i d ρ n ex σ H ews x H' hd hl s ⟨eH, y⟩
    obtain ⟨_, rfl⟩ := rngD_at hd
    subst eH y
    exact s.pushS rfl
  · intro ρ n ex σ H ews hl s
    rw [rngD_len]; exact Nat.le_refl _
theorem irng1_ {ta : TA} {Q : List I → List D → QS} (h : GA c ρ n ds ta fun its ρ' n' => ∃ i : Int, its = [.v (.int i)] ∧ (-(2 ^ 62) ≤ i ∧ i < 2 ^ 62) ∧ Q [] (rngD 0 i.toNat) ρ' n') : GI c ρ n ds (iRng1 ta) Q := fun σ H vs F s k =>
  h σ H vs _ s fun its ρ' n' xs H' ⟨i, e, hi, q⟩ hl s' => by
    subst e
    match xs, hl with
    | [x], _ =>
    obtain ⟨L, B, s'⟩ := s'
    cases (StX.val s')
    exact ⟨i, rfl, hi.1, hi.2, k [] _ _ _ [] _ _ q rfl (St.pop ⟨L, B, s'⟩) fun _ _ => wk_range⟩
theorem irng2_ {ta : TA} {Q : List I → List D → QS} (h : GA c ρ n ds ta fun its ρ' n' => ∃ i j : Int, its = [.v (.int i), .v (.int j)] ∧ (-(2 ^ 62) ≤ i ∧ i < 2 ^ 62 ∧ -(2 ^ 62) ≤ j ∧ j < 2 ^ 62) ∧ Q [] (rngD i (j - i).toNat) ρ' n') : GI c ρ n ds (iRng2 ta) Q := fun σ H vs F s k =>
  h σ H vs _ s fun its ρ' n' xs H' ⟨i, j, e, hi, q⟩ hl s' => by
    subst e
    match xs, hl with
    | [x, y], _ =>
    obtain ⟨L, B, s'⟩ := s'
    cases (StX.val s')
    have s2 := St.pop ⟨L, B, s'⟩
    obtain ⟨L, B, s2⟩ := s2
    cases (StX.val s2)
    exact ⟨i, j, rfl, hi, k [] _ _ _ [] _ _ q rfl (St.pop ⟨L, B, s2⟩) fun _ _ => wk_range⟩
end
end HD
/-! comprehensions -/
namespace HD
open PySem PySem.Spec PyProof.Rows L2 HX
def unset : List Nat → List S → List S
  | [], ρ => ρ
  | i :: is, ρ => (unset is ρ).set i .un
/-- no item looks at one of these slots -/
def cleanO (own : List Nat) (ds : List I) : Bool := ds.all fun i => match i with
  | .b j _ => !own.contains j
  | _ => true
section
variable {K : PySem.W.Frag} {c : Wd K} {ρ : List S} {n : Nat} {ds : List I} {L B : List Addr} {σ : L2.St} {H H' : Hp} {vs : List V} {v : V} {p : Addr}
theorem unset_len : ∀ (own : List Nat) (ρ : List S), (unset own ρ).length = ρ.length
  | [], _ => rfl
  | i :: is, ρ => by unfold unset; rw [List.length_set, unset_len is ρ]
theorem unset_at : ∀ {own : List Nat} {ρ : List S} {i : Nat}, i ∈ own → i < ρ.length → (unset own ρ)[i]? = some .un
  | [], _, _, h, _ => by cases h
  | j :: is, ρ, i, h, hl => by
    unfold unset
    by_cases e : j = i
    · subst e
      rw [List.getElem?_set_self (by rw [unset_len]; exact hl)]
    · rw [List.getElem?_set_ne e]
      refine unset_at ?_ hl
      rcases List.mem_cons.mp h with z | z
      · exact absurd z.symm e
      · exact z
theorem unset_ne : ∀ {own : List Nat} {ρ : List S} {i : Nat}, i ∉ own → (unset own ρ)[i]? = ρ[i]?
  | [], _, _, _ => rfl
  | j :: is, ρ, i, h => by
    unfold unset
    rw [List.getElem?_set_ne (fun e => h (by rw [e]; exact List.mem_cons_self))]
    exact unset_ne fun z => h (List.mem_cons_of_mem _ z)
theorem wipe_ne : ∀ {own : List Nat} {σ : L2.St} {i : Nat}, i ∉ own → (wipe σ own)[i]? = σ[i]?
  | [], _, _, _ => rfl
  | j :: is, σ, i, h => by
    unfold wipe
    rw [List.getElem?_set_ne (fun e => h (by rw [e]; exact List.mem_cons_self))]
    exact wipe_ne fun z => h (List.mem_cons_of_mem _ z)
theorem SRs.unset1 {g : Addr} {M : Addr → Prop} (i : Nat) (x : Option V) : ∀ {ρ : List S} {L : List Addr} {σ : L2.St}, SRs K g M H ρ L σ → ∃ L', L'.Sublist L ∧ SRs K g M H (ρ.set i .un) L' (σ.set i x) := fun {ρ L σ} h => by
  by_cases hi : i < ρ.length
  · obtain ⟨L1, l, L2, y, e1, e2, e3, e4⟩ := h.at (List.getElem?_eq_getElem hi)
    refine ⟨L1 ++ ([] ++ L2), ?_, e4 (l' := []) (.un x)⟩
    rw [e1]
    exact (List.Sublist.refl L1).append (List.sublist_append_right l L2)
  · have hl := h.len
    rw [List.set_eq_of_length_le (by omega), List.set_eq_of_length_le (by omega)]
    exact ⟨L, List.Sublist.refl _, h⟩
theorem SRs.unset {g : Addr} {M : Addr → Prop} : ∀ {own : List Nat} {ρ : List S} {L : List Addr} {σ : L2.St}, SRs K g M H ρ L σ → ∃ L', L'.Sublist L ∧ SRs K g M H (HD.unset own ρ) L' (wipe σ own)
  | [], _, L, _, h => ⟨L, List.Sublist.refl _, h⟩
  | i :: is, ρ, L, σ, h => by
    obtain ⟨L1, s1, h1⟩ := SRs.unset (own := is) h
    obtain ⟨L2, s2, h2⟩ := h1.unset1 i none
    exact ⟨L2, s2.trans s1, h2⟩
theorem SRs.re {g : Addr} {M : Addr → Prop} : ∀ {ρ : List S} {L : List Addr} {σ σ' : L2.St}, SRs K g M H ρ L σ → σ'.length = σ.length → (∀ i : Nat, σ'[i]? = σ[i]? ∨ ρ[i]? = some .un) → SRs K g M H ρ L σ'
  | _, _, _, [], .nil, _, _ => .nil
  | _, _, _, _ :: _, .nil, h, _ => by cases h
  | _, _, _, [], .cons _ _, h, _ => by cases h
  | _, _, _, y :: σ', .cons (s := s) (x := x) a b, hl, h => by
    have hb := SRs.re (σ' := σ') b (by simpa using hl) fun i => h (i + 1)
    rcases h 0 with z | z
    · have e : y = x := Option.some.inj (show some y = some x from z)
      rw [e]; exact .cons a hb
    · have e : s = S.un := Option.some.inj (show some s = some S.un from z)
      subst e
      cases a
      exact .cons (l := []) (.un y) hb
theorem IRs.cleanO {g : Addr} {M : Addr → Prop} {own : List Nat} {σ σ' : L2.St} {ρ ρ' : List S} (hσ : ∀ i, i ∉ own → σ'[i]? = σ[i]?) (hρ : ∀ i, i ∉ own → ρ'[i]? = ρ[i]?) : ∀ {ds : List I} {l : List Addr} {w : List V}, HD.cleanO own ds = true → IRs K g M H ρ σ ds l w → IRs K g M H ρ' σ' ds l w
  | _, _, _, _, .nil => .nil
  | _, _, _, k, .cons a b => by
    simp only [HD.cleanO, List.all_cons, Bool.and_eq_true] at k
    refine .cons ?_ (IRs.cleanO hσ hρ k.2 b)
    cases a with
    | v r => exact .v r
    | o r => exact .o r
    | @b i w xs e r =>
      have hi : i ∉ own := by simpa using k.1
      exact .b (by rw [hσ i hi]; exact e) (by rw [hρ i hi]; exact r)
theorem St.unset {own : List Nat} (hc : HD.cleanO own ds = true) (s : St c ρ n ds σ H vs) : St c (HD.unset own ρ) n ds (wipe σ own) H vs := by
  obtain ⟨L, B, s⟩ := s
  obtain ⟨L', sub, h⟩ := s.sl.unset (own := own)
  have hs : (L' ++ B).Sublist (L ++ B) := sub.append (List.Sublist.refl B)
  have mv : Mv (Mo c (L ++ B)) (Mo c (L' ++ B)) H H := mv_less (mo_less fun a ha => hs.mem ha)
  exact ⟨L', B, h.mv mv fun _ _ _ h => h, (s.it.mv mv fun _ _ _ h => h).cleanO (own := own) (fun i hi => wipe_ne hi) (fun i hi => unset_ne hi) hc, s.nd.sublist hs, fun a ha => s.fr a (hs.mem ha), s.kp, s.hat, s.mg, s.ml, s.md⟩
theorem wipe_len : ∀ (σ : L2.St) (own : List Nat), (wipe σ own).length = σ.length := wipe_length
/-- behind the block the slots are as they were -/
theorem St.back {own : List Nat} (hc : HD.cleanO own ds = true) (s : St c (HD.unset own ρ) n ds (wipe σ own) H vs) : St c (HD.unset own ρ) n ds σ H vs := by
  obtain ⟨L, B, s⟩ := s
  have hl : (HD.unset own ρ).length = σ.length := by rw [s.sl.len, wipe_len]
  refine ⟨L, B, s.sl.re (wipe_len σ own).symm fun i => ?_, s.it.cleanO (own := own) (fun i hi => (wipe_ne hi).symm) (fun _ _ => rfl) hc, s.nd, s.fr, s.kp, s.hat, s.mg, s.ml, s.md⟩
  by_cases hi : i ∈ own
  · by_cases h2 : i < ρ.length
    · exact .inr (unset_at hi h2)
    · refine .inl ?_
      rw [unset_len] at hl
      rw [List.getElem?_eq_none (by omega), List.getElem?_eq_none (by rw [wipe_len]; omega)]
  · exact .inl (wipe_ne hi).symm
/-- a target within a comprehension: no other slot changes -/
def GW (c : Wd K) (ρ : List S) (n : Nat) (ds : List I) (own : List Nat) (g : TG) (it : I) (Q : QS) : Prop :=
  ∀ σ H vs v (F : L2.St → Hp → Prop), St c ρ n (it :: ds) σ H (v :: vs) → (∀ ρ' n' σ' H', Q ρ' n' → wipe σ' own = wipe σ own → St c ρ' n' ds σ' H' vs → F σ' H') → g v σ H F
def GWs (c : Wd K) (ρ : List S) (n : Nat) (ds : List I) (own : List Nat) (g : TGs) (its : List I) (Q : QS) : Prop :=
  ∀ σ H vs xs (F : L2.St → Hp → Prop), xs.length = its.length → St c ρ n (its ++ ds) σ H (xs ++ vs) → (∀ ρ' n' σ' H', Q ρ' n' → wipe σ' own = wipe σ own → St c ρ' n' ds σ' H' vs → F σ' H') → g xs σ H F
theorem wipe_set : ∀ {own : List Nat} {σ : L2.St} {i : Nat} {x : Option V}, i ∈ own → wipe (σ.set i x) own = wipe σ own
  | [], _, _, _, h => by cases h
  | j :: is, σ, i, x, h => by
    unfold wipe
    by_cases e : i = j
    · subst e
      apply List.ext_getElem?
      intro m
      by_cases hm : i = m
      · subst hm
        by_cases hl : i < σ.length
        · rw [List.getElem?_set_self (by rw [wipe_len, List.length_set]; exact hl), List.getElem?_set_self (by rw [wipe_len]; exact hl)]
        · rw [List.getElem?_eq_none (by rw [List.length_set, wipe_len, List.length_set]; omega), List.getElem?_eq_none (by rw [List.length_set, wipe_len]; omega)]
      · rw [List.getElem?_set_ne hm, List.getElem?_set_ne hm]
        by_cases hi : m ∈ is
        · have : ∀ σ : L2.St, m < σ.length → (wipe σ is)[m]? = some none := by
            intro σ hl
            clear h
            induction is with
            | nil => cases hi
            | cons k is ih =>
              unfold wipe
              by_cases ek : k = m
              · subst ek; rw [List.getElem?_set_self (by rw [wipe_len]; exact hl)]
              · rw [List.getElem?_set_ne ek]
                refine ih ?_
                rcases List.mem_cons.mp hi with z | z
                · exact absurd z.symm ek
                · exact z
          by_cases hl : m < σ.length
          · rw [this σ hl, this _ (by rw [List.length_set]; exact hl)]
          · rw [List.getElem?_eq_none (by rw [wipe_len, List.length_set]; omega), List.getElem?_eq_none (by rw [wipe_len]; omega)]
        · rw [wipe_ne hi, wipe_ne hi, List.getElem?_set_ne hm]
    · rw [wipe_set (own := is) (by
        rcases List.mem_cons.mp h with z | z
        · exact absurd z e
        · exact z)]
theorem wname_ {own : List Nat} {i : Nat} {d : D} {QG : QS} (hc : clean ds = true) (hi : Nat.blt i ρ.length = true) (ho : own.contains i = true) (h : QG (ρ.set i (.v d)) n) : GW c ρ n ds own (gName i) (.v d) QG := fun σ H vs v F s k => by
  have hi : i < ρ.length := Nat.le_of_ble_eq_true hi
  obtain ⟨L, B, s⟩ := s
  obtain ⟨L', s⟩ := s.setV hc hi
  exact k _ _ _ _ h (wipe_set (by simpa using ho)) ⟨L', B, s⟩
theorem StX.setVO {own : List Nat} {L B : List Addr} {v : V} {d : D} {i : Nat} (hc : HD.cleanO own ds = true) (ho : i ∈ own) (hi : i < ρ.length) (s : StX c L B ρ n (.v d :: ds) σ H (v :: vs)) : ∃ L', StX c L' B (ρ.set i (.v d)) n ds (σ.set i (some v)) H vs := by
  have hv := s.val
  obtain ⟨sl, it, nd, fr, kp, hat, mg, ml, md⟩ := s
  cases it with
  | @cons _ l0 _ _ B2 _ a b =>
    cases a
    obtain ⟨L1, l, L2, x, e1, e2, e3, e4⟩ := sl.at (i := i) (s := ρ[i]) (List.getElem?_eq_getElem hi)
    subst e1
    have sub : ∀ b ∈ (L1 ++ ([] ++ L2)) ++ ([] ++ B2), b ∈ (L1 ++ (l ++ L2)) ++ ([] ++ B2) := fun b hb => by
      simp only [List.mem_append, List.nil_append] at hb ⊢
      rcases hb with (z | z) | z
      · exact .inl (.inl z)
      · exact .inl (.inr (.inr z))
      · exact .inr z
    have mv : Mv (Mo c ((L1 ++ (l ++ L2)) ++ ([] ++ B2))) (Mo c ((L1 ++ ([] ++ L2)) ++ ([] ++ B2))) H H := mv_less (mo_less sub)
    refine ⟨L1 ++ ([] ++ L2), (e4 (.v hv)).mv mv fun _ _ _ h => h, (b.mv mv fun _ _ _ h => h).cleanO (own := own) (fun j hj => List.getElem?_set_ne fun e => hj (by rw [← e]; exact ho)) (fun j hj => List.getElem?_set_ne fun e => hj (by rw [← e]; exact ho)) hc, ?_, fun b hb => fr b (sub b hb), kp, hat, mg, ml, md⟩
    refine nd.sublist (List.Sublist.append ?_ (List.Sublist.refl _))
    exact (List.Sublist.refl L1).append (List.sublist_append_right l L2)
theorem wnameO_ {own : List Nat} {i : Nat} {d : D} {QG : QS} (hc : HD.cleanO own ds = true) (hi : Nat.blt i ρ.length = true) (ho : own.contains i = true) (h : QG (ρ.set i (.v d)) n) : GW c ρ n ds own (gName i) (.v d) QG := fun σ H vs v F s k => by
  have hi : i < ρ.length := Nat.le_of_ble_eq_true hi
  obtain ⟨L, B, s⟩ := s
  obtain ⟨L', s⟩ := s.setVO hc (by simpa using ho) hi
  exact k _ _ _ _ h (wipe_set (by simpa using ho)) ⟨L', B, s⟩
theorem wnil_ {own : List Nat} {QG : QS} (h : QG ρ n) : GWs c ρ n ds own gNil [] QG := fun σ H vs xs F hl s k => by
  cases xs with
  | nil => exact ⟨rfl, k _ _ _ _ h rfl s⟩
  | cons _ _ => cases hl
theorem wcons_ {own : List Nat} {g : TG} {gs : TGs} {it : I} {its : List I} {QG : QS} (h : GW c ρ n (its ++ ds) own g it fun ρ1 n1 => GWs c ρ1 n1 ds own gs its QG) : GWs c ρ n ds own (gCons g gs) (it :: its) QG := fun σ H vs xs F hl s k => by
  cases xs with
  | nil => cases hl
  | cons x xs =>
    refine ⟨x, xs, rfl, ?_⟩
    exact h σ H (xs ++ vs) x _ s fun ρ1 n1 σ1 H1 q w1 s1 => q σ1 H1 vs xs F (by simpa using hl) s1 fun ρ2 n2 σ2 H2 q2 w2 s2 => k _ _ _ _ q2 (w2.trans w1) s2
theorem wtup_ {own : List Nat} {m : Nat} {gs : TGs} {xs : List D} {QG : QS} (hl : xs.length = m) (h : GWs c ρ n ds own gs (xs.map I.v) QG) : GW c ρ n ds own (gTup K m gs) (.v (.tup xs)) QG := fun σ H vs v F ⟨L, B, s⟩ k => by
  cases s.val with
  | @tup a ws _ hs ra =>
    refine ⟨a, ws, rfl, hs.sqt, by rw [ra.len, hl], ?_⟩
    have s3 : StX c L B ρ n ds σ H vs := by
      cases hit : s.it with
      | cons a b => cases a; exact ⟨s.sl, b, s.nd, s.fr, s.kp, s.hat, s.mg, s.ml, s.md⟩
    exact h σ H vs ws F (by rw [ra.len, List.length_map]) ⟨L, B, St.elems s3 ra⟩ k
def CpD (c : Wd K) (ds : List I) (own : List Nat) (g : TG) (tt : TT) (te : TE) (Q : List D → QS) : List D → List D → QS
  | [], ys => fun ρ n => Q ys ρ n
  | x :: xs, ys => fun ρ n => GW c ρ n (.o (.lst ys) :: ds) own g (.v x) fun ρ1 n1 => GT c ρ1 n1 (.o (.lst ys) :: ds) tt fun b ρ2 n2 =>
    if b = true then GE c ρ2 n2 (.o (.lst ys) :: ds) te fun it ρ3 n3 => Nat.ble ys.length 100000 = true ∧ CpD c ds own g tt te Q xs (ys ++ [it.val]) (unset own (frz1 ρ3 it)) n3
    else CpD c ds own g tt te Q xs ys (unset own ρ2) n2
/-- the topmost value is put behind the list below it -/
theorem St.acc {it : I} {ys : List D} {w : V} (s : St c ρ n (it :: .o (.lst ys) :: ds) σ H (v :: w :: vs)) : ∃ a acc, w = .ref a ∧ H a = some (.lst acc) ∧ acc.length = ys.length ∧ St c (HD.frz1 ρ it) n (.o (.lst (ys ++ [it.val])) :: ds) σ (upd H a (.lst (acc ++ [v]))) (w :: vs) := by
  obtain ⟨L, B, s⟩ := s.frz1
  have hv := s.val
  have s2 : StX c L B (HD.frz1 ρ it) n (.o (.lst ys) :: ds) σ H (w :: vs) := by
    cases hit : s.it with
    | cons a b => cases a; exact ⟨s.sl, b, s.nd, s.fr, s.kp, s.hat, s.mg, s.ml, s.md⟩
  obtain ⟨a, rfl, ⟨acc, h1, h2⟩, h3⟩ := s2.wrO
  exact ⟨a, acc, rfl, h1, h2.len, L, B, h3 fun m => ⟨_, upd_same, (h2.append (.cons hv .nil)).mv m⟩⟩
theorem lc_ {wi : TI} {g : TG} {tt : TT} {te : TE} {own : List Nat} {Q : QI} (h : GI c ρ n ds wi fun pin xs ρ' n' => cleanO own (pin ++ ds) = true ∧ CpD c (pin ++ ds) own g tt te (fun ys ρ2 n2 => Q (.o (.lst ys)) ρ2 n2) xs [] (HD.unset own ρ') n') : GE c ρ n ds (tLc wi g tt te own) Q := fun σ H vs F s k =>
  h σ H vs _ s fun pin xs ρ' n' ws J H' ⟨hc, q⟩ hl s' w => by
    have w := w ds vs
    intro D hD
    obtain ⟨L, B, s'⟩ := s'
    have s1 : St c ρ' n' (.o (.lst []) :: (pin ++ ds)) σ (upd H' D (.lst [])) (.ref D :: (ws ++ vs)) := ⟨L, _, s'.pushO hD .nil⟩
    have hc1 : ∀ ys, cleanO own (.o (.lst ys) :: (pin ++ ds)) = true := fun ys => by
      unfold cleanO
      rw [List.all_cons]
      exact hc
    have s2 := St.unset (hc1 []) s1
    refine ⟨fun i m H => m = xs.length - i ∧ i ≤ xs.length ∧ ∃ ys ρ0 n, CpD c (pin ++ ds) own g tt te (fun ys ρ2 n2 => Q (.o (.lst ys)) ρ2 n2) (xs.drop i) ys (HD.unset own ρ0) n ∧ St c (HD.unset own ρ0) n (.o (.lst ys) :: (pin ++ ds)) (wipe σ own) H (.ref D :: (ws ++ vs)), ⟨xs.length, rfl, Nat.zero_le _, [], ρ', n', q, s2⟩, ?_⟩
    rintro i m H ⟨rfl, hi, ys, ρ0, n, f, s⟩
    by_cases hlt : i < xs.length
    · refine .inr ⟨w.go i _ n [.o (.lst ys)] _ H [.ref D] hlt rfl s, fun H => ∃ ys ρ0 n, CpD c (pin ++ ds) own g tt te (fun ys ρ2 n2 => Q (.o (.lst ys)) ρ2 n2) (xs.drop (i + 1)) ys (HD.unset own ρ0) n ∧ St c (HD.unset own ρ0) n (.o (.lst ys) :: (pin ++ ds)) (wipe σ own) H (.ref D :: (ws ++ vs)), fun H' z => ⟨_, by omega, rfl, hlt, z⟩, fun x H' y => ?_⟩
      have s3 := w.yl i xs[i] _ n [.o (.lst ys)] _ H [.ref D] x H' (List.getElem?_eq_getElem hlt) rfl s y
      rw [List.drop_eq_getElem_cons hlt] at f
      refine f _ H' _ x _ s3 fun ρ1 n1 σ1 H1 q1 w1 s4 => ?_
      have w2 : wipe σ1 own = wipe σ own := by
        rw [w1]
        apply List.ext_getElem?
        intro m
        by_cases hm : m ∈ own
        · have z : ∀ {own : List Nat} {σ : L2.St}, m ∈ own → m < σ.length → (wipe σ own)[m]? = some none := by
            intro own σ hm hl
            induction own with
            | nil => cases hm
            | cons k is ih =>
              unfold wipe
              by_cases ek : k = m
              · subst ek; rw [List.getElem?_set_self (by rw [wipe_len]; exact hl)]
              · rw [List.getElem?_set_ne ek]
                refine ih ?_
                rcases List.mem_cons.mp hm with z | z
                · exact absurd z.symm ek
                · exact z
          by_cases hl : m < σ.length
          · rw [z hm (by rw [wipe_len]; exact hl), z hm hl]
          · rw [List.getElem?_eq_none (by rw [wipe_len, wipe_len]; omega), List.getElem?_eq_none (by rw [wipe_len]; omega)]
        · rw [wipe_ne hm]
      refine ⟨w2, q1 σ1 H1 _ _ s4 fun b ρ2 n2 H2 q2 s5 => ?_⟩
      cases b with
      | true =>
        rw [if_pos rfl] at q2 ⊢
        refine q2 σ1 H2 _ _ s5 fun it ρ3 n3 v3 H3 q3 s6 => ?_
        obtain ⟨a, acc, ea, h1, h2, s7⟩ := St.acc s6
        cases ea
        have hb := Nat.le_of_ble_eq_true q3.1
        refine ⟨acc, h1, Nat.lt_of_lt_of_le (show acc.length < 100001 by omega) (by decide), _, _, n3, q3.2, ?_⟩
        have s8 := St.unset (own := own) (hc1 _) s7
        rw [w2] at s8
        exact s8
      | false =>
        rw [if_neg Bool.false_ne_true] at q2 ⊢
        have s8 := St.unset (own := own) (hc1 _) s5
        rw [w2] at s8
        exact ⟨ys, ρ2, n2, q2, s8⟩
    · have e : i = xs.length := by omega
      subst e
      rw [List.drop_length] at f
      have s3 := St.back (hc1 _) s
      refine .inl ⟨w.st _ n [.o (.lst ys)] _ H [.ref D] rfl s, k _ _ _ _ _ f ?_⟩
      exact St.pops hl (St.rot hl s3)
theorem cpN_ {own : List Nat} {g : TG} {tt : TT} {te : TE} {Q : List D → QS} {ys : List D} (h : Q ys ρ n) : CpD c ds own g tt te Q [] ys ρ n := h
theorem cpC_ {own : List Nat} {g : TG} {tt : TT} {te : TE} {Q : List D → QS} {ys xs : List D} {x : D} (h : GW c ρ n (.o (.lst ys) :: ds) own g (.v x) fun ρ1 n1 => GT c ρ1 n1 (.o (.lst ys) :: ds) tt fun b ρ2 n2 =>
    if b = true then GE c ρ2 n2 (.o (.lst ys) :: ds) te fun it ρ3 n3 => Nat.ble ys.length 100000 = true ∧ CpD c ds own g tt te Q xs (ys ++ [it.val]) (HD.unset own (HD.frz1 ρ3 it)) n3
    else CpD c ds own g tt te Q xs ys (HD.unset own ρ2) n2) : CpD c ds own g tt te Q (x :: xs) ys ρ n := h
theorem GE.mono {t : TE} {Q Q' : QI} (h : GE c ρ n ds t Q) (m : ∀ it ρ n, Q it ρ n → Q' it ρ n) : GE c ρ n ds t Q' := fun σ H vs F s k => h σ H vs F s fun it ρ n v H q => k it ρ n v H (m _ _ _ q)
theorem GT.mono {t : TT} {Q Q' : Bool → QS} (h : GT c ρ n ds t Q) (m : ∀ it ρ n, Q it ρ n → Q' it ρ n) : GT c ρ n ds t Q' := fun σ H vs F s k => h σ H vs F s fun it ρ n H q => k it ρ n H (m _ _ _ q)
theorem GW.mono {own : List Nat} {g : TG} {it : I} {Q Q' : QS} (h : GW c ρ n ds own g it Q) (m : ∀ ρ n, Q ρ n → Q' ρ n) : GW c ρ n ds own g it Q' := fun σ H vs v F s k => h σ H vs v F s fun ρ n σ H q => k ρ n σ H (m _ _ q)
/-- a comprehension by its invariant -/
theorem CpD.inv {own : List Nat} {g : TG} {tt : TT} {te : TE} {Q : List D → QS} {xs : List D} (P : Nat → List D → QS) (h0 : P 0 [] ρ n)
    (hs : ∀ i x ys ρ n, xs[i]? = some x → i < xs.length → P i ys ρ n → GW c ρ n (.o (.lst ys) :: ds) own g (.v x) fun ρ1 n1 => GT c ρ1 n1 (.o (.lst ys) :: ds) tt fun b ρ2 n2 =>
      if b = true then GE c ρ2 n2 (.o (.lst ys) :: ds) te fun it ρ3 n3 => Nat.ble ys.length 100000 = true ∧ P (i + 1) (ys ++ [it.val]) (HD.unset own (HD.frz1 ρ3 it)) n3
      else P (i + 1) ys (HD.unset own ρ2) n2) (hd : ∀ ys ρ n, P xs.length ys ρ n → Q ys ρ n) : CpD c ds own g tt te Q xs [] ρ n := by
  have go : ∀ (k : Nat) (ys : List D) (ρ : List S) (n : Nat), k ≤ xs.length → P k ys ρ n → CpD c ds own g tt te Q (xs.drop k) ys ρ n := by
    intro k
    generalize hm : xs.length - k = m
    induction m generalizing k with
    | zero =>
      intro ys ρ n hk p
      have : k = xs.length := by omega
      subst this
      rw [List.drop_length]
      exact hd _ _ _ p
    | succ m ih =>
      intro ys ρ n hk p
      have hlt : k < xs.length := by omega
      rw [List.drop_eq_getElem_cons hlt]
      refine (hs k xs[k] ys ρ n (List.getElem?_eq_getElem hlt) hlt p).mono fun ρ1 n1 q => q.mono fun b ρ2 n2 q2 => ?_
      cases b with
      | true =>
        rw [if_pos rfl] at q2 ⊢
        exact q2.mono fun it ρ3 n3 q3 => ⟨q3.1, ih (k + 1) (by omega) _ _ _ hlt q3.2⟩
      | false =>
        rw [if_neg Bool.false_ne_true] at q2 ⊢
        exact ih (k + 1) (by omega) _ _ _ hlt q2
  exact go 0 [] ρ n (Nat.zero_le _) h0
end
end HD
/-! operators, built-ins, methods on data -/
namespace HD
open PySem PySem.Spec PyProof.Rows L2 HX
mutual
def D.py : D → PyData
  | .bl b => .bool b
  | .int i => .int i
  | .str x => .str x
  | .tup xs => .tuple (D.pys xs)
  | .lst xs => .list (D.pys xs)
  | _ => .none
def D.pys : List D → List PyData
  | [] => []
  | x :: xs => D.py x :: D.pys xs
end
mutual
/-- nothing but None, truths, integers, texts, lists, tuples -/
def D.dat : D → Bool
  | .non => true
  | .bl _ => true
  | .int _ => true
  | .str _ => true
  | .tup xs => D.dats xs
  | .lst xs => D.dats xs
  | _ => false
def D.dats : List D → Bool
  | [] => true
  | x :: xs => D.dat x && D.dats xs
end
/-- == of data -/
def D.eqv (d e : D) : Bool := PyData.eqv d.py e.py
def D.cmp (d e : D) : Prop := d.dat = true ∧ e.dat = true ∧ SeqAt.shaped d.py = true ∧ SeqAt.shaped e.py = true
def flatD : D → Bool
  | .non => true
  | .bl _ => true
  | .int _ => true
  | .str _ => true
  | _ => false
def eqF : D → D → Bool
  | .non, .non => true
  | .bl a, .bl b => a == b
  | .bl a, .int b => (if a then 1 else 0) == b
  | .int a, .bl b => a == (if b then 1 else 0)
  | .int a, .int b => a == b
  | .str a, .str b => a == b
  | _, _ => false
def inF (x : D) (xs : List D) : Bool := xs.any fun y => eqF y x
def cutD (xs : List D) (lo hi : Option Int) : List D := (xs.drop (HT.sIx xs.length 0 lo)).take (HT.sIx xs.length xs.length hi - HT.sIx xs.length 0 lo)
section
variable {K : PySem.W.Frag} {c : Wd K} {ρ : List S} {n : Nat} {ds : List I} {L B : List Addr} {σ : L2.St} {H H' : Hp} {vs : List V} {v : V} {p : Addr} {Q : QI} {g : Addr} {M : Addr → Prop}
mutual
theorem R.dp : ∀ {v : V} {d : D}, R K g M H v d → d.dat = true → Dp K H v d.py
  | _, _, .non, _ => by rw [D.py]; exact .non; all_goals (intros; contradiction)
  | _, _, .bl b, _ => by rw [D.py]; exact .bl b
  | _, _, .int b, _ => by rw [D.py]; exact .int b
  | _, _, .str b, _ => by rw [D.py]; exact .str b
  | _, _, .ty b, h => by simp [D.dat] at h
  | _, _, .glo b, h => by simp [D.dat] at h
  | _, _, .hat, h => by simp [D.dat] at h
  | _, _, .lst n e a, h => by rw [D.py]; rw [D.dat] at h; exact .lst (SqL.of e) (RA.dp a h)
  | _, _, .tup s a, h => by rw [D.py]; rw [D.dat] at h; exact .tup s.sqt (RA.dp a h)
  | _, _, .ins n e a, h => by simp [D.dat] at h
theorem RA.dp : ∀ {v : List V} {d : List D}, RA K g M H v d → D.dats d = true → DpAll K H v (D.pys d)
  | _, _, .nil, _ => by rw [D.pys]; exact .nil
  | _, _, .cons a b, h => by
    rw [D.pys]
    rw [D.dats, Bool.and_eq_true] at h
    exact .cons (R.dp a h.1) (RA.dp b h.2)
end
theorem IR.ls {it : I} {l : List Addr} {w : V} {xs : List D} (sl : SRs K g M H ρ L σ) (h : IR K g M H ρ σ it l w) (e : it.val = .lst xs) : ∃ a ws, w = .ref a ∧ H a = some (.lst ws) ∧ RA K g M H ws xs := by
  cases h with
  | v r => cases (show _ = D.lst xs from e); cases r with | lst n h q => exact ⟨_, _, rfl, h, q⟩
  | o h => cases (show _ = D.lst xs from e); obtain ⟨_, h, q⟩ := h; exact ⟨_, _, rfl, h, q⟩
  | @b i _ _ h q =>
    cases (show _ = D.lst xs from e)
    rcases q with q | q | ⟨_, q⟩
    · obtain ⟨_, _, _, x, _, e2, e3, _⟩ := sl.at q
      rw [h] at e2; cases e2
      cases e3 with | ow h2 => obtain ⟨_, h2, r⟩ := h2; exact ⟨_, _, rfl, h2, r⟩
    · obtain ⟨_, _, _, x, _, e2, e3, _⟩ := sl.at q
      rw [h] at e2; cases e2
      cases e3 with | v r => cases r with | lst n h2 r => exact ⟨_, _, rfl, h2, r⟩
    · obtain ⟨_, _, _, x, _, e2, e3, _⟩ := sl.at q
      rw [h] at e2; cases e2
      cases e3 with | me h2 => obtain ⟨_, h2, r⟩ := h2; exact ⟨_, _, rfl, h2, r⟩
theorem IRs.tl {it : I} {ds : List I} (h : IRs K g M H ρ σ (it :: ds) B (v :: vs)) : ∃ B', B'.Sublist B ∧ IRs K g M H ρ σ ds B' vs := by
  cases h with | @cons _ l _ _ B2 _ a b => exact ⟨B2, List.sublist_append_right l B2, b⟩
theorem StX.cutB {B' : List Addr} {ds' : List I} {vs' : List V} (s : StX c L B ρ n ds σ H vs) (hB : B'.Sublist B) (h : IRs K c.g (Mo c (L ++ B)) H ρ σ ds' B' vs') : StX c L B' ρ n ds' σ H vs' ∧ Mv (Mo c (L ++ B)) (Mo c (L ++ B')) H H := by
  have hs : (L ++ B').Sublist (L ++ B) := (List.Sublist.refl L).append hB
  have mv : Mv (Mo c (L ++ B)) (Mo c (L ++ B')) H H := mv_less (mo_less fun a ha => hs.mem ha)
  exact ⟨⟨s.sl.mv mv fun _ _ _ h => h, h.mv mv fun _ _ _ h => h, s.nd.sublist hs, fun a ha => s.fr a (hs.mem ha), s.kp, s.hat, s.mg, s.ml, s.md⟩, mv⟩
/-- two lists on top -/
theorem StX.ls2 {ix iy : I} {x y : V} {xs ys : List D} (s : StX c L B ρ n (iy :: ix :: ds) σ H (y :: x :: vs)) (ex : ix.val = .lst xs) (ey : iy.val = .lst ys) : ∃ a b ws us B', x = .ref a ∧ y = .ref b ∧ H a = some (.lst ws) ∧ H b = some (.lst us) ∧ StX c L B' ρ n ds σ H vs ∧ RA K c.g (Mo c (L ++ B')) H ws xs ∧ RA K c.g (Mo c (L ++ B')) H us ys := by
  obtain ⟨_, hy⟩ := IRs.mid (ex := []) (ews := []) rfl s.it
  obtain ⟨_, hx⟩ := IRs.mid (ex := [iy]) (ews := [y]) rfl s.it
  obtain ⟨b, us, rfl, hb, rb⟩ := hy.ls s.sl ey
  obtain ⟨a, ws, rfl, ha, ra⟩ := hx.ls s.sl ex
  obtain ⟨B1, h1, t1⟩ := s.it.tl
  obtain ⟨B2, h2, t2⟩ := t1.tl
  obtain ⟨s2, mv⟩ := s.cutB (h2.trans h1) t2
  exact ⟨a, b, ws, us, B2, rfl, rfl, ha, hb, s2, ra.mv mv, rb.mv mv⟩
/-- two items on top, as they are -/
theorem StX.it2 {ix iy : I} {x y : V} (s : StX c L B ρ n (iy :: ix :: ds) σ H (y :: x :: vs)) : ∃ B' lx ly, StX c L B' ρ n ds σ H vs ∧ Mv (Mo c (L ++ B)) (Mo c (L ++ B')) H H ∧ IR K c.g (Mo c (L ++ B)) H ρ σ ix lx x ∧ IR K c.g (Mo c (L ++ B)) H ρ σ iy ly y := by
  obtain ⟨_, hy⟩ := IRs.mid (ex := []) (ews := []) rfl s.it
  obtain ⟨_, hx⟩ := IRs.mid (ex := [iy]) (ews := [y]) rfl s.it
  obtain ⟨B1, h1, t1⟩ := s.it.tl
  obtain ⟨B2, h2, t2⟩ := t1.tl
  obtain ⟨s2, mv⟩ := s.cutB (h2.trans h1) t2
  exact ⟨B2, _, _, s2, mv, hx, hy⟩
theorem StX.it1 {ix : I} {x : V} (s : StX c L B ρ n (ix :: ds) σ H (x :: vs)) : ∃ B' lx, StX c L B' ρ n ds σ H vs ∧ Mv (Mo c (L ++ B)) (Mo c (L ++ B')) H H ∧ IR K c.g (Mo c (L ++ B)) H ρ σ ix lx x := by
  obtain ⟨_, hx⟩ := IRs.mid (ex := []) (ews := []) rfl s.it
  obtain ⟨B1, h1, t1⟩ := s.it.tl
  obtain ⟨s2, mv⟩ := s.cutB h1 t1
  exact ⟨B1, _, s2, mv, hx⟩
theorem IR.r {d : D} {l : List Addr} {w : V} (h : IR K g M H ρ σ (.v d) l w) : R K g M H w d := by cases h with | v r => exact r
theorem RO.dp {a : Addr} {d : D} (h : RO K g M H a d) (hd : d.dat = true) : Dp K H (.ref a) d.py := by
  cases d <;> first | exact h.elim | skip
  · obtain ⟨_, h, r⟩ := h; rw [D.dat] at hd; rw [D.py]; exact .lst (SqL.of h) (r.dp hd)
  · simp [D.dat] at hd
theorem IR.dpv {it : I} {l : List Addr} {w : V} (sl : SRs K g M H ρ L σ) (h : IR K g M H ρ σ it l w) (hd : it.val.dat = true) : Dp K H w it.val.py := by
  cases h with
  | v r => exact r.dp hd
  | o r => exact r.dp hd
  | @b i _ _ h q =>
    rcases q with q | q | ⟨_, q⟩
    · obtain ⟨_, _, _, x, _, e2, e3, _⟩ := sl.at q
      rw [h] at e2; cases e2
      cases e3 with | ow h2 => exact h2.dp hd
    · obtain ⟨_, _, _, x, _, e2, e3, _⟩ := sl.at q
      rw [h] at e2; cases e2
      cases e3 with | v r => exact r.dp hd
    · obtain ⟨_, _, _, x, _, e2, e3, _⟩ := sl.at q
      rw [h] at e2; cases e2
      cases e3 with | me h2 => exact h2.dp hd
/-! ### integers -/
theorem St.two {x y : V} {d e : D} (s : St c ρ n (.v e :: .v d :: ds) σ H (y :: x :: vs)) : (∃ M, R K c.g M H x d) ∧ ∃ M, R K c.g M H y e := by
  obtain ⟨L, B, s⟩ := s
  refine ⟨?_, _, s.val⟩
  obtain ⟨B', s2⟩ := s.pop
  exact ⟨_, s2.val⟩
theorem St.one {x : V} {d : D} (s : St c ρ n (.v d :: ds) σ H (x :: vs)) : ∃ M, R K c.g M H x d := by
  obtain ⟨L, B, s⟩ := s
  exact ⟨_, s.val⟩
theorem R.eInt {x : V} {i : Int} (h : ∃ M, R K g M H x (.int i)) : x = .int i := by obtain ⟨M, h⟩ := h; cases h; rfl
theorem R.eStr {x : V} {i : Str} (h : ∃ M, R K g M H x (.str i)) : x = .str i := by obtain ⟨M, h⟩ := h; cases h; rfl
theorem R.eBl {x : V} {i : Bool} (h : ∃ M, R K g M H x (.bl i)) : x = .bl i := by obtain ⟨M, h⟩ := h; cases h; rfl
theorem R.eTy {x : V} {i : String} (h : ∃ M, R K g M H x (.ty i)) : x = .ty i := by obtain ⟨M, h⟩ := h; cases h; rfl
theorem R.eNon {x : V} (h : ∃ M, R K g M H x .non) : x = .non := by obtain ⟨M, h⟩ := h; cases h; rfl
section
variable {i j : Int}
theorem iInt_ {f : Int → Int → Int} (h : Q (.v (.int (f i j))) ρ n) : GO c ρ n ds (rI0 fun i j => .int (f i j)) (.v (.int i)) (.v (.int j)) Q := fun σ H vs x y F s k => by
  obtain rfl := R.eInt s.two.1; obtain rfl := R.eInt s.two.2
  exact ⟨i, j, rfl, rfl, k _ _ _ _ _ h (s.pop.pop.pushS rfl)⟩
theorem iBl_ {f : Int → Int → Bool} (h : Q (.v (.bl (f i j))) ρ n) : GO c ρ n ds (rI0 fun i j => .bl (f i j)) (.v (.int i)) (.v (.int j)) Q := fun σ H vs x y F s k => by
  obtain rfl := R.eInt s.two.1; obtain rfl := R.eInt s.two.2
  exact ⟨i, j, rfl, rfl, k _ _ _ _ _ h (s.pop.pop.pushS rfl)⟩
theorem iC_ {C : Int → Int → Prop} {f : Int → Int → Int} (hc : C i j) (h : Q (.v (.int (f i j))) ρ n) : GO c ρ n ds (rI C fun i j => .int (f i j)) (.v (.int i)) (.v (.int j)) Q := fun σ H vs x y F s k => by
  obtain rfl := R.eInt s.two.1; obtain rfl := R.eInt s.two.2
  exact ⟨i, j, rfl, rfl, hc, k _ _ _ _ _ h (s.pop.pop.pushS rfl)⟩
/-- a remainder: a letter and what is known of it -/
theorem mod_ (hj : 0 < j) (h : ∀ z, i % j = z → 0 ≤ z → z < j → Q (.v (.int z)) ρ n) : GO c ρ n ds rMod (.v (.int i)) (.v (.int j)) Q := fun σ H vs x y F s k => by
  obtain rfl := R.eInt s.two.1; obtain rfl := R.eInt s.two.2
  exact ⟨i, j, rfl, rfl, hj, k _ _ _ _ _ (h _ rfl (Int.emod_nonneg i (by omega)) (Int.emod_lt_of_pos i hj)) (s.pop.pop.pushS rfl)⟩
theorem u_ {f : Int → Int} (h : Q (.v (.int (f i))) ρ n) : GU c ρ n ds (rU fun i => .int (f i)) (.v (.int i)) Q := fun σ H vs x F s k => by
  obtain rfl := R.eInt s.one
  exact ⟨i, rfl, k _ _ _ _ _ h (s.pop.pushS rfl)⟩
theorem addI_ (h : Q (.v (.int (i + j))) ρ n) : GO c ρ n ds (rAddU K) (.v (.int i)) (.v (.int j)) Q := fun σ H vs x y F s k => .inl (iInt_ (f := fun i j => i + j) h σ H vs x y F s k)
theorem addS_ {i j : Str} (hl : i.length + j.length ≤ sizeLine) (h : Q (.v (.str (i ++ j))) ρ n) : GO c ρ n ds (rAddU K) (.v (.str i)) (.v (.str j)) Q := fun σ H vs x y F s k => by
  obtain rfl := R.eStr s.two.1; obtain rfl := R.eStr s.two.2
  exact .inr (.inl ⟨i, j, rfl, rfl, hl, k _ _ _ _ _ h (s.pop.pop.pushS rfl)⟩)
theorem addL_ {ix iy : I} {xs ys : List D} (ex : ix.val = .lst xs) (ey : iy.val = .lst ys) (hl : xs.length + ys.length ≤ 100000) (h : Q (.o (.lst (xs ++ ys))) ρ n) : GO c ρ n ds (rAddU K) ix iy Q := fun σ H vs x y F ⟨L, B, s⟩ k => by
  obtain ⟨a, b, ws, us, B', rfl, rfl, ha, hb, s2, ra, rb⟩ := s.ls2 ex ey
  refine .inr (.inr (.inl ⟨a, b, ws, us, rfl, rfl, ha, hb, ?_, fun p hp => k _ _ _ _ _ h ⟨L, _, s2.pushO hp (ra.append rb)⟩⟩))
  rw [ra.len, rb.len]; exact Nat.le_trans hl (by decide)
theorem addT_ {xs ys : List D} (hl : xs.length + ys.length ≤ 100000) (h : Q (.v (.tup (xs ++ ys))) ρ n) : GO c ρ n ds (rAddU K) (.v (.tup xs)) (.v (.tup ys)) Q := fun σ H vs x y F ⟨L, B, s⟩ k => by
  obtain ⟨B', lx, ly, s2, mv, hx', hy'⟩ := s.it2
  cases hx'.r with
  | @tup a ws _ ha ra =>
  cases hy'.r with
  | @tup b us _ hb rb =>
  refine .inr (.inr (.inr ⟨a, b, ws, us, rfl, rfl, ha.sqt, hb.sqt, ?_, fun e => ?_, fun _ e => ?_, fun _ _ p hp => ?_⟩))
  · rw [ra.len, rb.len]; exact Nat.le_trans hl (by decide)
  · have : xs = [] := List.length_eq_zero_iff.mp (by rw [← ra.len, e]; rfl)
    subst this
    exact k _ _ _ _ _ h ⟨L, B', s2.pushR ((R.tup hb rb).mv mv)⟩
  · have : ys = [] := List.length_eq_zero_iff.mp (by rw [← rb.len, e]; rfl)
    subst this
    rw [List.append_nil] at h
    exact k _ _ _ _ _ h ⟨L, B', s2.pushR ((R.tup ha ra).mv mv)⟩
  · exact k _ _ _ _ _ h ⟨L, B', s2.pushT hp ((ra.append rb).mv mv)⟩
theorem repL_ {ix : I} {xs : List D} {m : Int} (ex : ix.val = .lst xs) (hm : -(2 ^ 63) ≤ m ∧ m < 2 ^ 63) (hl : xs.length * m.toNat ≤ 100000) (h : Q (.o (.lst (List.replicate m.toNat xs).flatten)) ρ n) : GO c ρ n ds rRep ix (.v (.int m)) Q := fun σ H vs x y F ⟨L, B, s⟩ k => by
  obtain ⟨B', lx, ly, s2, mv, hx, hy⟩ := s.it2
  cases hy.r
  obtain ⟨a, ws, rfl, ha, ra⟩ := hx.ls s.sl ex
  refine ⟨a, m, ws, rfl, rfl, ha, hm.1, hm.2, ?_, fun p hp => k _ _ _ _ _ h ⟨L, _, s2.pushO hp ?_⟩⟩
  · rw [ra.len]; exact Nat.le_trans hl (by decide)
  · have ra2 := ra.mv mv
    clear hl h
    induction m.toNat with
    | zero => exact .nil
    | succ q ih => rw [List.replicate_succ, List.replicate_succ, List.flatten_cons, List.flatten_cons]; exact ra2.append ih
/-! ### comparisons -/
theorem eqI_ (h : Q (.v (.bl (decide (i = j)))) ρ n) : GO c ρ n ds (rEqU K) (.v (.int i)) (.v (.int j)) Q := fun σ H vs x y F s k => by
  obtain rfl := R.eInt s.two.1; obtain rfl := R.eInt s.two.2
  exact HX.eq_int_ (k _ _ _ _ _ h (s.pop.pop.pushS rfl))
theorem neI_ (h : Q (.v (.bl (!decide (i = j)))) ρ n) : GO c ρ n ds (rNeU K) (.v (.int i)) (.v (.int j)) Q := fun σ H vs x y F s k => by
  obtain rfl := R.eInt s.two.1; obtain rfl := R.eInt s.two.2
  exact HX.ne_int_ (k _ _ _ _ _ h (s.pop.pop.pushS rfl))
theorem eqS_ {i j : Str} (h : Q (.v (.bl (decide (i = j)))) ρ n) : GO c ρ n ds (rEqU K) (.v (.str i)) (.v (.str j)) Q := fun σ H vs x y F s k => by
  obtain rfl := R.eStr s.two.1; obtain rfl := R.eStr s.two.2
  exact HX.eq_str_ (k _ _ _ _ _ h (s.pop.pop.pushS rfl))
theorem neS_ {i j : Str} (h : Q (.v (.bl (!decide (i = j)))) ρ n) : GO c ρ n ds (rNeU K) (.v (.str i)) (.v (.str j)) Q := fun σ H vs x y F s k => by
  obtain rfl := R.eStr s.two.1; obtain rfl := R.eStr s.two.2
  exact HX.ne_str_ (k _ _ _ _ _ h (s.pop.pop.pushS rfl))
theorem eqB_ {i j : Bool} (h : Q (.v (.bl (decide (i = j)))) ρ n) : GO c ρ n ds (rEqU K) (.v (.bl i)) (.v (.bl j)) Q := fun σ H vs x y F s k => by
  obtain rfl := R.eBl s.two.1; obtain rfl := R.eBl s.two.2
  exact HX.eq_bl_ (k _ _ _ _ _ h (s.pop.pop.pushS rfl))
theorem neB_ {i j : Bool} (h : Q (.v (.bl (!decide (i = j)))) ρ n) : GO c ρ n ds (rNeU K) (.v (.bl i)) (.v (.bl j)) Q := fun σ H vs x y F s k => by
  obtain rfl := R.eBl s.two.1; obtain rfl := R.eBl s.two.2
  exact HX.ne_bl_ (k _ _ _ _ _ h (s.pop.pop.pushS rfl))
theorem eqD_ {ix iy : I} (hc : D.cmp ix.val iy.val) (h : Q (.v (.bl (D.eqv ix.val iy.val))) ρ n) : GO c ρ n ds (rEqU K) ix iy Q := fun σ H vs x y F ⟨L, B, s⟩ k => by
  obtain ⟨B', lx, ly, s2, mv, hx, hy⟩ := s.it2
  exact HC.eqd_ (hx.dpv s.sl hc.1) (hy.dpv s.sl hc.2.1) hc.2.2.1 hc.2.2.2 (k _ _ _ _ _ h ⟨L, B', s2.pushR (.bl _)⟩)
theorem neD_ {ix iy : I} (hc : D.cmp ix.val iy.val) (h : Q (.v (.bl (!D.eqv ix.val iy.val))) ρ n) : GO c ρ n ds (rNeU K) ix iy Q := fun σ H vs x y F ⟨L, B, s⟩ k => by
  obtain ⟨B', lx, ly, s2, mv, hx, hy⟩ := s.it2
  exact HC.ned_ (hx.dpv s.sl hc.1) (hy.dpv s.sl hc.2.1) hc.2.2.1 hc.2.2.2 (k _ _ _ _ _ h ⟨L, B', s2.pushR (.bl _)⟩)
end
end
end HD
/-! operators, built-ins, methods on data: second part -/
namespace HD
open PySem PySem.Spec PyProof.Rows L2 HX
section
variable {K : PySem.W.Frag} {c : Wd K} {ρ : List S} {n : Nat} {ds : List I} {L B : List Addr} {σ : L2.St} {H H' : Hp} {vs : List V} {v : V} {p : Addr} {Q : QI} {g : Addr} {M : Addr → Prop}
/-! ### in, not in -/
theorem R.flat {v : V} {d : D} (h : R K g M H v d) (f : flatD d = true) : flatV v = true := by
  cases h <;> first | rfl | cases f
theorem R.eqF {v w : V} {d e : D} (h : R K g M H v d) (h2 : R K g M H w e) (f : flatD d = true) (f2 : flatD e = true) : eqV v w = HD.eqF d e := by
  cases h <;> cases h2 <;> first | rfl | cases f | cases f2
theorem RA.flat : ∀ {ws : List V} {xs : List D}, RA K g M H ws xs → xs.all flatD = true → ws.all flatV = true
  | _, _, .nil, _ => rfl
  | _, _, .cons a b, f => by
    rw [List.all_cons, Bool.and_eq_true] at f ⊢
    exact ⟨a.flat f.1, RA.flat b f.2⟩
theorem RA.inF {v : V} {d : D} (h : R K g M H v d) (fd : flatD d = true) : ∀ {ws : List V} {xs : List D}, RA K g M H ws xs → xs.all flatD = true → inV v ws = HD.inF d xs
  | _, _, .nil, _ => rfl
  | _, _, .cons a b, f => by
    rw [List.all_cons, Bool.and_eq_true] at f
    unfold inV HD.inF
    rw [List.any_cons, List.any_cons, a.eqF h f.1 fd]
    have := RA.inF h fd b f.2
    unfold inV HD.inF at this
    rw [this]
/-- an item's list or tuple -/
def D.seq : D → Option (List D)
  | .lst xs => some xs
  | .tup xs => some xs
  | _ => none
def I.seq (it : I) : Option (List D) := it.val.seq
theorem R.seq {w : V} {d : D} {xs : List D} (h : R K g M H w d) (e : d.seq = some xs) : ∃ a ws, w = .ref a ∧ (SqL K H a ws ∨ SqT K H a ws) ∧ RA K g M H ws xs := by
  cases d with
  | lst ys => cases e; cases h with | lst n h2 r => exact ⟨_, _, rfl, .inl (SqL.of h2), r⟩
  | tup ys => cases e; cases h with | tup h2 r => exact ⟨_, _, rfl, .inr h2.sqt, r⟩
  | _ => cases e
theorem RO.seq {a : Addr} {d : D} {xs : List D} (h : RO K g M H a d) (e : d.seq = some xs) : ∃ ws, (SqL K H a ws ∨ SqT K H a ws) ∧ RA K g M H ws xs := by
  cases d with
  | lst ys => cases e; obtain ⟨_, h, r⟩ := h; exact ⟨_, .inl (SqL.of h), r⟩
  | tup ys => exact h.elim
  | _ => cases e
theorem IR.seq {it : I} {l : List Addr} {w : V} {xs : List D} (sl : SRs K g M H ρ L σ) (h : IR K g M H ρ σ it l w) (e : it.seq = some xs) : ∃ a ws, w = .ref a ∧ (SqL K H a ws ∨ SqT K H a ws) ∧ RA K g M H ws xs := by
  cases h with
  | v r => exact r.seq e
  | o r => obtain ⟨ws, h1, h2⟩ := r.seq e; exact ⟨_, ws, rfl, h1, h2⟩
  | @b i _ _ h q =>
    rcases q with q | q | ⟨_, q⟩
    · obtain ⟨_, _, _, x, _, e2, e3, _⟩ := sl.at q
      rw [h] at e2; cases e2
      cases e3 with | ow h2 => obtain ⟨ws, h1, h2⟩ := h2.seq e; exact ⟨_, ws, rfl, h1, h2⟩
    · obtain ⟨_, _, _, x, _, e2, e3, _⟩ := sl.at q
      rw [h] at e2; cases e2
      cases e3 with | v r => exact r.seq e
    · obtain ⟨_, _, _, x, _, e2, e3, _⟩ := sl.at q
      rw [h] at e2; cases e2
      cases e3 with | me h2 => obtain ⟨ws, h1, h2⟩ := h2.seq e; exact ⟨_, ws, rfl, h1, h2⟩
theorem inG_ {neg : Bool} {d : D} {iy : I} {xs : List D} (ey : iy.seq = some xs) (fd : flatD d = true) (fx : xs.all flatD = true) {r : R2} (hr : ∀ x y H F, rIn K neg x y H F → r x y H F) (h : Q (.v (.bl (if neg then !inF d xs else inF d xs))) ρ n) : GO c ρ n ds r (.v d) iy Q := fun σ H vs x y F ⟨L, B, s⟩ k => by
  obtain ⟨B', lx, ly, s2, mv, hx, hy⟩ := s.it2
  obtain ⟨a, ws, rfl, hs, r⟩ := hy.seq s.sl ey
  refine hr _ _ _ _ ⟨a, ws, rfl, hs, hx.r.flat fd, r.flat fx, ?_⟩
  rw [RA.inF hx.r fd r fx]
  exact k _ _ _ _ _ h ⟨L, B', s2.pushR (.bl _)⟩
theorem in_ {d : D} {iy : I} {xs : List D} (ey : iy.seq = some xs) (fd : flatD d = true) (fx : xs.all flatD = true) (h : Q (.v (.bl (inF d xs))) ρ n) : GO c ρ n ds (rInU K) (.v d) iy Q := inG_ (neg := false) ey fd fx (fun _ _ _ _ z => .inl z) h
theorem ni_ {d : D} {iy : I} {xs : List D} (ey : iy.seq = some xs) (fd : flatD d = true) (fx : xs.all flatD = true) (h : Q (.v (.bl (!inF d xs))) ρ n) : GO c ρ n ds (rNiU K) (.v d) iy Q := inG_ (neg := true) ey fd fx (fun _ _ _ _ z => .inl z) h
theorem inSg_ {a : Nat} {z : Str} (h : Q (.v (.bl (decide (a ∈ z.cps.toList)))) ρ n) : GO c ρ n ds (rInU K) (.v (.str ⟨#[a]⟩)) (.v (.str z)) Q := fun σ H vs x y F s k => by
  obtain rfl := R.eStr s.two.1; obtain rfl := R.eStr s.two.2
  exact .inr ⟨a, z, rfl, rfl, k _ _ _ _ _ h (s.pop.pop.pushS rfl)⟩
theorem niSg_ {a : Nat} {z : Str} (h : Q (.v (.bl (!decide (a ∈ z.cps.toList)))) ρ n) : GO c ρ n ds (rNiU K) (.v (.str ⟨#[a]⟩)) (.v (.str z)) Q := fun σ H vs x y F s k => by
  obtain rfl := R.eStr s.two.1; obtain rfl := R.eStr s.two.2
  exact .inr ⟨a, z, rfl, rfl, k _ _ _ _ _ h (s.pop.pop.pushS rfl)⟩
/-! ### is None -/
theorem R.isNon {v : V} {d : D} (h : R K g M H v d) : decide (v = .non) = match d with | .non => true | _ => false := by
  cases h <;> first | rfl | (exact decide_eq_false (fun e => nomatch e))
def isNo : D → Bool
  | .non => true
  | _ => false
theorem RO.isNon {a : Addr} {d : D} (h : RO K g M H a d) : false = isNo d := by
  cases d <;> first | exact h.elim | rfl
theorem R.isNon2 {w : V} {d : D} (h : R K g M H w d) : decide (w = .non) = isNo d := by rw [h.isNon]; cases d <;> rfl
theorem IR.non {it : I} {l : List Addr} {w : V} (sl : SRs K g M H ρ L σ) (h : IR K g M H ρ σ it l w) : decide (w = .non) = isNo it.val := by
  cases h with
  | v r => exact r.isNon2
  | o r => rw [show decide (V.ref _ = V.non) = false from rfl, r.isNon]; rfl
  | @b i _ _ h q =>
    rcases q with q | q | ⟨_, q⟩
    · obtain ⟨_, _, _, x, _, e2, e3, _⟩ := sl.at q
      rw [h] at e2; cases e2
      cases e3 with | ow r => rw [show decide (V.ref _ = V.non) = false from rfl, r.isNon]; rfl
    · obtain ⟨_, _, _, x, _, e2, e3, _⟩ := sl.at q
      rw [h] at e2; cases e2
      cases e3 with | v r => exact r.isNon2
    · obtain ⟨_, _, _, x, _, e2, e3, _⟩ := sl.at q
      rw [h] at e2; cases e2
      cases e3 with | me r => rw [show decide (V.ref _ = V.non) = false from rfl, r.isNon]; rfl
theorem isN_ {ix : I} (h : Q (.v (.bl (isNo ix.val))) ρ n) : GO c ρ n ds rIsN ix (.v .non) Q := fun σ H vs x y F ⟨L, B, s⟩ k => by
  obtain ⟨B', lx, ly, s2, mv, hx, hy⟩ := s.it2
  cases hy.r
  refine ⟨rfl, ?_⟩
  rw [hx.non s.sl]
  exact k _ _ _ _ _ h ⟨L, B', s2.pushR (.bl _)⟩
theorem notN_ {ix : I} (h : Q (.v (.bl (!isNo ix.val))) ρ n) : GO c ρ n ds rNotN ix (.v .non) Q := fun σ H vs x y F ⟨L, B, s⟩ k => by
  obtain ⟨B', lx, ly, s2, mv, hx, hy⟩ := s.it2
  cases hy.r
  refine ⟨rfl, ?_⟩
  rw [hx.non s.sl]
  exact k _ _ _ _ _ h ⟨L, B', s2.pushR (.bl _)⟩
/-! ### items and slices -/
theorem ix_ {it : I} {xs : List D} {i : Int} {d : D} (e : it.seq = some xs) (hi : atI xs i = some d) (h : Q (.v d) ρ n) : GO c ρ n ds (rIx K) it (.v (.int i)) Q := fun σ H vs x y F ⟨L, B, s⟩ k => by
  obtain ⟨B', lx, ly, s2, mv, hx, hy⟩ := s.it2
  cases hy.r
  obtain ⟨a, ws, rfl, hs, r⟩ := hx.seq s.sl e
  obtain ⟨w, hw, rw'⟩ := r.atI hi
  have fin := k _ _ _ _ _ h ⟨L, B', s2.pushR (rw'.mv mv)⟩
  rcases hs with hs | hs
  · exact .inl ⟨a, ws, i, w, rfl, rfl, hs, hw, fin⟩
  · exact .inr (.inl ⟨a, ws, i, w, rfl, rfl, hs, hw, fin⟩)
theorem ixS_ {z : Str} {i : Int} {a : Nat} (hz : z.length ≤ sizeLine) (hi : atI z.cps.toList i = some a) (h : Q (.v (.str ⟨#[a]⟩)) ρ n) : GO c ρ n ds (rIx K) (.v (.str z)) (.v (.int i)) Q := fun σ H vs x y F s k => by
  obtain rfl := R.eStr s.two.1; obtain rfl := R.eInt s.two.2
  exact .inr (.inr ⟨z, i, a, rfl, rfl, hz, hi, k _ _ _ _ _ h (s.pop.pop.pushS rfl)⟩)
def GP (c : Wd K) (ρ : List S) (n : Nat) (ds : List I) (t : TO) (Q : Option Int → QS) : Prop :=
  ∀ σ H vs (F : Option Int → Hp → Prop), St c ρ n ds σ H vs → (∀ o ρ' n' H', Q o ρ' n' → St c ρ' n' ds σ H' vs → F o H') → t σ H F
theorem nopart_ {QO : Option Int → QS} (h : QO none ρ n) : GP c ρ n ds tNoPart QO := fun σ H vs F s k => k _ _ _ _ h s
theorem part_ {te : TE} {QO : Option Int → QS} (h : GE c ρ n ds te fun it ρ' n' => ∃ i, it = .v (.int i) ∧ QO (some i) ρ' n') : GP c ρ n ds (tPart te) QO := fun σ H vs F s k =>
  h σ H vs _ s fun it ρ' n' v H' ⟨i, e, q⟩ s' => by
    subst e
    obtain rfl := R.eInt s'.one
    exact ⟨i, rfl, k _ _ _ _ q s'.pop⟩
/-- a slice of the topmost item -/
def GL (c : Wd K) (ρ : List S) (n : Nat) (ds : List I) (r : V → Option Int → Option Int → Hp → VK → Prop) (it : I) (lo hi : Option Int) (Q : QI) : Prop :=
  ∀ σ H vs x (F : VK), St c ρ n (it :: ds) σ H (x :: vs) → (∀ it ρ' n' v H', Q it ρ' n' → St c ρ' n' (it :: ds) σ H' (v :: vs) → F v H') → r x lo hi H F
theorem sl_ {r : V → Option Int → Option Int → Hp → VK → Prop} {te : TE} {tl th : TO} (h : GE c ρ n ds te fun it ρ1 n1 => GP c ρ1 n1 (it :: ds) tl fun lo ρ2 n2 => GP c ρ2 n2 (it :: ds) th fun hi ρ3 n3 => GL c ρ3 n3 ds r it lo hi Q) : GE c ρ n ds (L2.tSl r te tl th) Q := fun σ H vs F s k =>
  h σ H vs _ s fun it ρ1 n1 x H1 q1 s1 => q1 σ H1 (x :: vs) _ s1 fun lo ρ2 n2 H2 q2 s2 => q2 σ H2 (x :: vs) _ s2 fun hi ρ3 n3 H3 q3 s3 => q3 σ H3 vs x F s3 k
theorem slL_ {it : I} {xs : List D} {lo hi : Option Int} (e : it.val = .lst xs) (h : Q (.o (.lst (cutD xs lo hi))) ρ n) : GL c ρ n ds (rSlU K) it lo hi Q := fun σ H vs x F ⟨L, B, s⟩ k => by
  obtain ⟨B', lx, s2, mv, hx⟩ := s.it1
  obtain ⟨a, ws, rfl, ha, ra⟩ := hx.ls s.sl e
  refine .inl ⟨a, ws, rfl, SqL.of ha, fun p hp => k _ _ _ _ _ h ⟨L, _, s2.pushO hp ?_⟩⟩
  unfold cutV cutD
  rw [ra.len]
  exact ((ra.mv mv).drop _).take _
theorem slT_ {xs : List D} {lo hi : Option Int} (h : Q (.v (.tup (cutD xs lo hi))) ρ n) : GL c ρ n ds (rSlU K) (.v (.tup xs)) lo hi Q := fun σ H vs x F ⟨L, B, s⟩ k => by
  obtain ⟨B', lx, s2, mv, hx⟩ := s.it1
  cases hx.r with
  | @tup a ws _ ha ra =>
  refine .inr (.inl ⟨a, ws, rfl, ha.sqt, fun hw => ?_, fun _ p hp => k _ _ _ _ _ h ⟨L, _, s2.pushT hp ?_⟩⟩)
  · rw [ra.len] at hw
    have e : cutD xs lo hi = xs := by
      unfold cutD
      rw [hw.1, hw.2, List.drop_zero, Nat.sub_zero, List.take_length]
    rw [e] at h
    exact k _ _ _ _ _ h ⟨L, _, s2.pushR ((R.tup ha ra).mv mv)⟩
  · unfold cutV cutD
    rw [ra.len]
    exact ((ra.mv mv).drop _).take _
theorem slS_ {z : Str} {lo hi : Option Int} (hz : z.length ≤ sizeLine) (h : Q (.v (.str (cutS z lo hi))) ρ n) : GL c ρ n ds (rSlU K) (.v (.str z)) lo hi Q := fun σ H vs x F s k => by
  obtain rfl := R.eStr s.one
  exact .inr (.inr ⟨z, rfl, hz, k _ _ _ _ _ h (s.pop.pushS rfl)⟩)
theorem rev_ {te : TE} (h : GE c ρ n ds te fun it ρ' n' => ∃ xs, it.val = .lst xs ∧ Q (.o (.lst xs.reverse)) ρ' n') : GE c ρ n ds (tRevL K te) Q := fun σ H vs F s k =>
  h σ H vs _ s fun it ρ' n' x H' ⟨xs, e, q⟩ ⟨L, B, s⟩ => by
    obtain ⟨B', lx, s2, mv, hx⟩ := s.it1
    obtain ⟨a, ws, rfl, ha, ra⟩ := hx.ls s.sl e
    exact ⟨a, ws, rfl, SqL.of ha, fun p hp => k _ _ _ _ _ q ⟨L, _, s2.pushO hp (ra.mv mv).reverse⟩⟩
/-! ### len and others -/
section
variable {it : I}
theorem gb1 {r : List V → Hp → VK → Prop} (h : ∀ σ H vs x (F : VK) L B, StX c L B ρ n (it :: ds) σ H (x :: vs) → (∀ it ρ' n' v H', Q it ρ' n' → St c ρ' n' (it :: ds) σ H' (v :: vs) → F v H') → r [x] H F) : GB c ρ n ds r [it] Q := fun σ H vs xs F hl ⟨L, B, s⟩ k => by
  match xs, hl with
  | [x], _ => exact h σ H vs x F L B s k
theorem len_ {xs : List D} (e : it.seq = some xs) (h : Q (.v (.int xs.length)) ρ n) : GB c ρ n ds (rLenU K) [it] Q := gb1 fun σ H vs x F L B s k => by
  obtain ⟨B', lx, s2, mv, hx⟩ := s.it1
  obtain ⟨a, ws, rfl, hs, r⟩ := hx.seq s.sl e
  refine .inl ⟨a, ws, rfl, hs, ?_⟩
  rw [r.len]
  exact k _ _ _ _ _ h ⟨L, B', s2.pushR (.int _)⟩
theorem lenS_ {z : Str} (hz : z.length ≤ sizeLine) (h : Q (.v (.int z.length)) ρ n) : GB c ρ n ds (rLenU K) [.v (.str z)] Q := gb1 fun σ H vs x F L B s k => by
  obtain rfl := R.eStr ⟨_, s.val⟩
  exact .inr ⟨z, rfl, hz, k _ _ _ _ _ h ((St.pop ⟨L, B, s⟩).pushS rfl)⟩
theorem abs_ {i : Int} (h : Q (.v (.int (if i < 0 then -i else i))) ρ n) : GB c ρ n ds rAbs [.v (.int i)] Q := gb1 fun σ H vs x F L B s k => by
  obtain rfl := R.eInt ⟨_, s.val⟩
  exact ⟨i, rfl, k _ _ _ _ _ h ((St.pop ⟨L, B, s⟩).pushS rfl)⟩
theorem intI_ {i : Int} (h : Q (.v (.int i)) ρ n) : GB c ρ n ds rInt1 [.v (.int i)] Q := gb1 fun σ H vs x F L B s k => by
  obtain rfl := R.eInt ⟨_, s.val⟩
  exact .inl ⟨i, rfl, k _ _ _ _ _ h ((St.pop ⟨L, B, s⟩).pushS rfl)⟩
theorem intB_ {b : Bool} (h : Q (.v (.int (if b then 1 else 0))) ρ n) : GB c ρ n ds rInt1 [.v (.bl b)] Q := gb1 fun σ H vs x F L B s k => by
  obtain rfl := R.eBl ⟨_, s.val⟩
  exact .inr ⟨b, rfl, k _ _ _ _ _ h ((St.pop ⟨L, B, s⟩).pushS rfl)⟩
theorem boolB_ {b : Bool} (h : Q (.v (.bl b)) ρ n) : GB c ρ n ds HC.rBool1 [.v (.bl b)] Q := gb1 fun σ H vs x F L B s k => by
  obtain rfl := R.eBl ⟨_, s.val⟩
  exact .inr ⟨b, rfl, k _ _ _ _ _ h ((St.pop ⟨L, B, s⟩).pushS rfl)⟩
theorem reprI_ {i : Int} (hi : i.natAbs.log2 < 1920) (h : Q (.v (.str (toString i))) ρ n) : GB c ρ n ds (fun xs H Q => ∃ i : Int, xs = [.int i] ∧ i.natAbs.log2 < 1920 ∧ Q (.str (toString i)) H) [.v (.int i)] Q := gb1 fun σ H vs x F L B s k => by
  obtain rfl := R.eInt ⟨_, s.val⟩
  exact ⟨i, rfl, hi, k _ _ _ _ _ h ((St.pop ⟨L, B, s⟩).pushS rfl)⟩
theorem listOf_ {xs : List D} (e : it.seq = some xs) (h : Q (.o (.lst xs)) ρ n) : GB c ρ n ds (rListOf K) [it] Q := gb1 fun σ H vs x F L B s k => by
  obtain ⟨B', lx, s2, mv, hx⟩ := s.it1
  obtain ⟨a, ws, rfl, hs, r⟩ := hx.seq s.sl e
  exact ⟨a, ws, rfl, hs, fun p hp => k _ _ _ _ _ h ⟨L, _, s2.pushO hp (r.mv mv)⟩⟩
theorem tupleOfL_ {xs : List D} (e : it.val = .lst xs) (h : Q (.v (.tup xs)) ρ n) : GB c ρ n ds (rTupleOf K) [it] Q := gb1 fun σ H vs x F L B s k => by
  obtain ⟨B', lx, s2, mv, hx⟩ := s.it1
  obtain ⟨a, ws, rfl, ha, r⟩ := hx.ls s.sl e
  exact ⟨a, ws, rfl, .inl ⟨SqL.of ha, fun p hp => k _ _ _ _ _ h ⟨L, _, s2.pushT hp (r.mv mv)⟩⟩⟩
theorem tupleOfT_ {xs : List D} (h : Q (.v (.tup xs)) ρ n) : GB c ρ n ds (rTupleOf K) [.v (.tup xs)] Q := gb1 fun σ H vs x F L B s k => by
  have s0 := s
  cases s.val with
  | @tup a ws _ ha ra => exact ⟨a, ws, rfl, .inr ⟨ha.sqt, k _ _ _ _ _ h ⟨L, B, s0⟩⟩⟩
theorem sum_ {ns : List Int} (e : it.val = .lst (ns.map D.int)) (h : Q (.v (.int ns.sum)) ρ n) : GB c ρ n ds (rSum K) [it] Q := gb1 fun σ H vs x F L B s k => by
  obtain ⟨B', lx, s2, mv, hx⟩ := s.it1
  obtain ⟨a, ws, rfl, ha, r⟩ := hx.ls s.sl e
  obtain rfl := r.ints
  exact ⟨a, ns, rfl, SqL.of ha, k _ _ _ _ _ h ⟨L, B', s2.pushR (.int _)⟩⟩
theorem any_ {bs : List Bool} (e : it.val = .lst (bs.map D.bl)) (h : Q (.v (.bl (bs.any id))) ρ n) : GB c ρ n ds (rAny K) [it] Q := gb1 fun σ H vs x F L B s k => by
  obtain ⟨B', lx, s2, mv, hx⟩ := s.it1
  obtain ⟨a, ws, rfl, ha, r⟩ := hx.ls s.sl e
  obtain rfl := r.bls
  exact ⟨a, bs, rfl, SqL.of ha, k _ _ _ _ _ h ⟨L, B', s2.pushR (.bl _)⟩⟩
theorem all_ {bs : List Bool} (e : it.val = .lst (bs.map D.bl)) (h : Q (.v (.bl (bs.all id))) ρ n) : GB c ρ n ds (rAll K) [it] Q := gb1 fun σ H vs x F L B s k => by
  obtain ⟨B', lx, s2, mv, hx⟩ := s.it1
  obtain ⟨a, ws, rfl, ha, r⟩ := hx.ls s.sl e
  obtain rfl := r.bls
  exact ⟨a, bs, rfl, SqL.of ha, k _ _ _ _ _ h ⟨L, B', s2.pushR (.bl _)⟩⟩
theorem sorted_ {ns : List Int} (e : it.val = .lst (ns.map D.int)) (hl : ns.length < 64) (h : ∀ ms : List Int, ms.Perm ns → ms.Pairwise (· ≤ ·) → Q (.o (.lst (ms.map D.int))) ρ n) : GB c ρ n ds (rSorted K) [it] Q := gb1 fun σ H vs x F L B s k => by
  obtain ⟨B', lx, s2, mv, hx⟩ := s.it1
  obtain ⟨a, ws, rfl, ha, r⟩ := hx.ls s.sl e
  obtain rfl := r.ints
  exact ⟨a, ns, rfl, SqL.of ha, hl, fun ms p hp hq np => k _ _ _ _ _ (h ms hp hq) ⟨L, _, s2.pushO np (RA.ofInts ms)⟩⟩
theorem max_ {ns : List Int} (e : it.val = .lst (ns.map D.int)) (hl : 0 < ns.length) (h : ∀ m, m ∈ ns → (∀ y, y ∈ ns → y ≤ m) → Q (.v (.int m)) ρ n) : GB c ρ n ds (rMax K) [it] Q := gb1 fun σ H vs x F L B s k => by
  obtain ⟨B', lx, s2, mv, hx⟩ := s.it1
  obtain ⟨a, ws, rfl, ha, r⟩ := hx.ls s.sl e
  obtain rfl := r.ints
  exact ⟨a, ns, rfl, SqL.of ha, hl, fun m hm hy => k _ _ _ _ _ (h m hm hy) ⟨L, B', s2.pushR (.int _)⟩⟩
theorem min_ {ns : List Int} (e : it.val = .lst (ns.map D.int)) (hl : 0 < ns.length) (h : ∀ m, m ∈ ns → (∀ y, y ∈ ns → m ≤ y) → Q (.v (.int m)) ρ n) : GB c ρ n ds (rMin K) [it] Q := gb1 fun σ H vs x F L B s k => by
  obtain ⟨B', lx, s2, mv, hx⟩ := s.it1
  obtain ⟨a, ws, rfl, ha, r⟩ := hx.ls s.sl e
  obtain rfl := r.ints
  exact ⟨a, ns, rfl, SqL.of ha, hl, fun m hm hy => k _ _ _ _ _ (h m hm hy) ⟨L, B', s2.pushR (.int _)⟩⟩
theorem max2_ {i j : Int} (h : Q (.v (.int (if j > i then j else i))) ρ n) : GB c ρ n ds rMax2 [.v (.int i), .v (.int j)] Q := fun σ H vs xs F hl s k => by
  match xs, hl with
  | [x, y], _ =>
  obtain rfl := R.eInt (St.one s); obtain rfl := R.eInt (St.one (St.pop s))
  exact ⟨i, j, rfl, k _ _ _ _ _ h (St.pushS (St.pop (St.pop s)) rfl)⟩
theorem min2_ {i j : Int} (h : Q (.v (.int (if j < i then j else i))) ρ n) : GB c ρ n ds rMin2 [.v (.int i), .v (.int j)] Q := fun σ H vs xs F hl s k => by
  match xs, hl with
  | [x, y], _ =>
  obtain rfl := R.eInt (St.one s); obtain rfl := R.eInt (St.one (St.pop s))
  exact ⟨i, j, rfl, k _ _ _ _ _ h (St.pushS (St.pop (St.pop s)) rfl)⟩
end
end
end HD
/-! methods, instances, constructors on data -/
namespace HD
open PySem PySem.Spec PyProof.Rows L2 HX
section
variable {K : PySem.W.Frag} {c : Wd K} {ρ : List S} {n : Nat} {ds : List I} {L B : List Addr} {σ : L2.St} {H H' : Hp} {vs : List V} {v : V} {p : Addr} {Q : QI} {g : Addr} {M : Addr → Prop}
/-! ### methods of built-in types -/
def tyD (T : String) : D → Prop
  | .lst _ => T = "list"
  | .str _ => T = "str"
  | .int _ => T = "int"
  | _ => False
theorem IR.cases {it : I} {l : List Addr} {w : V} (sl : SRs K g M H ρ L σ) (h : IR K g M H ρ σ it l w) : R K g M H w it.val ∨ ∃ a, w = .ref a ∧ RO K g M H a it.val := by
  cases h with
  | v r => exact .inl r
  | o r => exact .inr ⟨_, rfl, r⟩
  | @b i _ _ h q =>
    rcases q with q | q | ⟨_, q⟩
    · obtain ⟨_, _, _, x, _, e2, e3, _⟩ := sl.at q
      rw [h] at e2; cases e2
      cases e3 with | ow r => exact .inr ⟨_, rfl, r⟩
    · obtain ⟨_, _, _, x, _, e2, e3, _⟩ := sl.at q
      rw [h] at e2; cases e2
      cases e3 with | v r => exact .inl r
    · obtain ⟨_, _, _, x, _, e2, e3, _⟩ := sl.at q
      rw [h] at e2; cases e2
      cases e3 with | me r => exact .inr ⟨_, rfl, r⟩
theorem tyD.okv {T : String} {it : I} {l : List Addr} {w : V} (sl : SRs K g M H ρ L σ) (h : IR K g M H ρ σ it l w) (t : tyD T it.val) : tyV K T w H := by
  rcases h.cases sl with r | ⟨a, rfl, r⟩
  · generalize it.val = d at r t
    cases r <;> first | exact t.elim | exact t | skip
    · rename_i n e q; exact .inl ⟨t, _, SqL.of e⟩
  · generalize it.val = d at r t
    cases d <;> first | exact r.elim | exact t.elim | skip
    · obtain ⟨_, e, _⟩ := r; exact .inl ⟨t, _, SqL.of e⟩
theorem bm_ {T : String} {r : V → List V → Hp → VK → Prop} {to : TE} {t : TA} (h : GE c ρ n ds to fun ix ρ1 n1 => tyD T ix.val ∧ GA c ρ1 n1 (ix :: ds) t fun its ρ2 n2 => GM c ρ2 n2 ds r ix its Q) : GE c ρ n ds (tBM K T r to t) Q := fun σ H vs F s k =>
  h σ H vs _ s fun ix ρ1 n1 x H1 ⟨ht, q⟩ ⟨L, B, s1⟩ => by
    obtain ⟨B', lx, s2, mv, hx⟩ := s1.it1
    exact ⟨tyD.okv s1.sl hx ht, q σ H1 (x :: vs) _ ⟨L, B, s1⟩ fun its ρ2 n2 xs H2 q2 hl s3 => q2 σ H2 vs x xs F hl s3 k⟩
theorem bm0_ {T : String} {r : V → List V → Hp → VK → Prop} {to : TE} (h : GE c ρ n ds to fun ix ρ1 n1 => tyD T ix.val ∧ GM c ρ1 n1 ds r ix [] Q) : GE c ρ n ds (tBM0 K T r to) Q := fun σ H vs F s k =>
  h σ H vs _ s fun ix ρ1 n1 x H1 ⟨ht, q⟩ ⟨L, B, s1⟩ => by
    obtain ⟨B', lx, s2, mv, hx⟩ := s1.it1
    exact ⟨tyD.okv s1.sl hx ht, q σ H1 vs x [] F rfl ⟨L, B, s1⟩ k⟩
/-- the item beneath the topmost one is what slot i owns -/
theorem slotOf {i : Nat} {d : D} {it : I} {x y : V} (s : StX c L B ρ n (it :: .b i d :: ds) σ H (y :: x :: vs)) : σ[i]? = some (some x) := by
  obtain ⟨_, hx⟩ := IRs.mid (ex := [it]) (ews := [y]) rfl s.it
  cases hx with | b e _ => exact e
theorem append_ {i : Nat} {it : I} {d0 : D} {xs : List D} (hc : clean ds = true) (hi : (frz1 ρ it)[i]? = some (.ow (.lst xs))) (hl : Nat.ble xs.length 100000 = true) (h : Q (.v .non) ((frz1 ρ it).set i (.ow (.lst (xs ++ [it.val])))) n) : GM c ρ n ds rAppend (.b i d0) [it] Q := fun σ H vs x ys F hy s k => by
  match ys, hy with
  | [y], _ =>
  obtain ⟨L, B, s⟩ := St.frz1 s
  have hs := slotOf s
  have hv := s.val
  obtain ⟨B', lx, ly, s2, mv, _, _⟩ := s.it2
  obtain ⟨a, e1, ⟨ws, ha, ra⟩, w⟩ := s2.wrS hc hi
  rw [hs] at e1; cases e1
  refine ⟨a, ws, y, rfl, rfl, ha, ?_, k _ _ _ _ _ h ⟨L, B', (w (t := .lst (xs ++ [it.val])) (o := .lst (ws ++ [y])) fun m => ⟨_, upd_same, ?_⟩).pushR .non⟩⟩
  · rw [ra.len]; exact Nat.lt_of_lt_of_le (Nat.lt_succ_of_le (Nat.le_of_ble_eq_true hl)) (by decide)
  · exact (ra.append (.cons (hv.mv mv) .nil)).mv m
theorem extend_ {i : Nat} {it : I} {d0 : D} {xs zs : List D} (hc : clean ds = true) (hi : ρ[i]? = some (.ow (.lst xs))) (hz : it.val = .lst zs) (hl : xs.length + zs.length ≤ 100000) (h : Q (.v .non) (ρ.set i (.ow (.lst (xs ++ zs)))) n) : GM c ρ n ds rExtend (.b i d0) [it] Q := fun σ H vs x ys F hy ⟨L, B, s⟩ k => by
  match ys, hy with
  | [y], _ =>
  have hs := slotOf s
  obtain ⟨B', lx, ly, s2, mv, hx, hit⟩ := s.it2
  obtain ⟨b, us, rfl, hb, rb⟩ := hit.ls s.sl hz
  obtain ⟨a, e1, ⟨ws, ha, ra⟩, w⟩ := s2.wrS hc hi
  rw [hs] at e1; cases e1
  refine ⟨a, b, ws, us, rfl, rfl, ha, hb, ?_, k _ _ _ _ _ h ⟨L, B', (w (t := .lst (xs ++ zs)) (o := .lst (ws ++ us)) fun m => ⟨_, upd_same, ?_⟩).pushR .non⟩⟩
  · rw [ra.len, rb.len]; exact Nat.le_trans hl (by decide)
  · exact (ra.append (rb.mv mv)).mv m
theorem slotOf1 {i : Nat} {d : D} {x : V} (s : StX c L B ρ n (.b i d :: ds) σ H (x :: vs)) : σ[i]? = some (some x) := by
  obtain ⟨_, hx⟩ := IRs.mid (ex := []) (ews := []) rfl s.it
  cases hx with | b e _ => exact e
theorem pop_ {i : Nat} {d0 d : D} {xs : List D} (hc : clean ds = true) (hi : ρ[i]? = some (.ow (.lst xs))) (hd : xs[xs.length - 1]? = some d) (h : Q (.v d) (ρ.set i (.ow (.lst xs.dropLast))) n) : GM c ρ n ds rPop (.b i d0) [] Q := fun σ H vs x ys F hy ⟨L, B, s⟩ k => by
  match ys, hy with
  | [], _ =>
  have hs := slotOf1 s
  obtain ⟨B', lx, s2, mv, hx⟩ := s.it1
  obtain ⟨a, e1, ⟨ws, ha, ra⟩, w⟩ := s2.wrS hc hi
  rw [hs] at e1; cases e1
  obtain ⟨z, hz, rz⟩ := ra.at hd
  have s3 : StX c L B' (ρ.set i (.ow (.lst xs.dropLast))) n ds σ (upd H a (.lst ws.dropLast)) vs := w fun m => ⟨_, upd_same, (ra.dropLast).mv m⟩
  have mo : Mv (Mo c (L ++ B')) (Mo c (L ++ B')) H (upd H a (.lst ws.dropLast)) := mv_own (by
    obtain ⟨L1, l, L2, x, f1, f2, f3, _⟩ := s2.sl.at hi
    rw [hs] at f2; cases f2
    cases f3
    rw [f1]; simp)
  exact ⟨a, ws, z, rfl, rfl, ha, by rw [ra.len]; exact hz, k _ _ _ _ _ h ⟨L, B', s3.pushR (rz.mv mo)⟩⟩
theorem lcount_ {ix : I} {ns : List Int} {j : Int} (e : ix.val = .lst (ns.map D.int)) (h : Q (.v (.int (ns.count j : Nat))) ρ n) : GM c ρ n ds (rCntI K) ix [.v (.int j)] Q := fun σ H vs x ys F hy ⟨L, B, s⟩ k => by
  match ys, hy with
  | [y], _ =>
  obtain ⟨B', lx, ly, s2, mv, hx, hit⟩ := StX.it2 (ix := ix) (iy := .v (.int j)) s
  cases hit.r
  obtain ⟨a, ws, rfl, ha, ra⟩ := hx.ls s.sl e
  obtain rfl := ra.ints
  exact ⟨a, ns, j, rfl, rfl, SqL.of ha, k _ _ _ _ _ h ⟨L, B', s2.pushR (.int _)⟩⟩
/-! ### x[i] = e -/
def GX (c : Wd K) (ρ : List S) (n : Nat) (ds : List I) (t : TSet) (io ii it : I) (Q : QS) : Prop :=
  ∀ σ H vs o i v (F : Hp → Prop), St c ρ n (ii :: io :: it :: ds) σ H (i :: o :: v :: vs) → (∀ ρ' n' H', Q ρ' n' → St c ρ' n' ds σ H' vs → F H') → t o i v H F
theorem gsub_ {to ti : TE} {t : TSet} {it : I} {QG : QS} (h : GE c ρ n (it :: ds) to fun io ρ1 n1 => GE c ρ1 n1 (io :: it :: ds) ti fun ii ρ2 n2 => GX c ρ2 n2 ds t io ii it QG) : GG c ρ n ds (gSub to ti t) it QG := fun σ H vs v F s k =>
  h σ H (v :: vs) _ s fun io ρ1 n1 o H1 q1 s1 => q1 σ H1 (o :: v :: vs) _ s1 fun ii ρ2 n2 i H2 q2 s2 => q2 σ H2 vs o i v _ s2 fun ρ3 n3 H3 q3 s3 => k _ _ _ _ q3 s3
theorem setL_ {i : Nat} {it : I} {d0 : D} {xs : List D} {j : Int} {m : Nat} {QG : QS} (hc : clean ds = true) (hi : (frz1 ρ it)[i]? = some (.ow (.lst xs))) (hj : ixN xs.length j = some m) (h : QG ((frz1 ρ it).set i (.ow (.lst (xs.set m it.val)))) n) : GX c ρ n ds rSetL (.b i d0) (.v (.int j)) it QG := fun σ H vs o y v F s k => by
  have s1 := St.rot' (is := [.v (.int j), .b i d0]) (ws := [y, o]) rfl s
  obtain ⟨L, B, s⟩ := St.frz1 s1
  have hv := s.val
  obtain ⟨_, hy⟩ := IRs.mid (ex := [.v it.val]) (ews := [v]) rfl s.it
  cases hy.r
  obtain ⟨_, ho⟩ := IRs.mid (ex := [.v it.val, .v (.int j)]) (ews := [v, .int j]) rfl s.it
  have hs : σ[i]? = some (some o) := by cases ho with | b e _ => exact e
  obtain ⟨B1, h1, t1⟩ := s.it.tl
  obtain ⟨B2, h2, t2⟩ := IRs.tl t1
  obtain ⟨B3, h3, t3⟩ := IRs.tl t2
  obtain ⟨s2, mv⟩ := s.cutB ((h3.trans h2).trans h1) t3
  obtain ⟨a, e1, ⟨ws, ha, ra⟩, w⟩ := s2.wrS hc hi
  rw [hs] at e1; cases e1
  refine ⟨a, ws, j, m, rfl, rfl, ha, by rw [ra.len]; exact hj, k _ _ _ h ⟨L, B3, w fun mm => ⟨_, upd_same, (ra.set m (hv.mv mv)).mv mm⟩⟩⟩
/-! ### isinstance -/
/-- the built-in type of a value -/
def D.tn : D → Option String
  | .non => some "NoneType"
  | .bl _ => some "bool"
  | .int _ => some "int"
  | .str _ => some "str"
  | .lst _ => some "list"
  | .tup _ => some "tuple"
  | _ => none
theorem R.tn {v : V} {d : D} {t : String} (h : R K g M H v d) (e : d.tn = some t) : TyX K H v (.type t) := by
  cases h <;> first | (cases e; done) | skip
  · cases e; exact .base .non
  · cases e; exact .base (.bl _)
  · cases e; exact .base (.int _)
  · cases e; exact .base (.str _)
  · cases e; rename_i h _; exact .base (.lst h)
  · cases e
    rename_i h _
    rcases h with h | h
    · exact .base (.tup h.2)
    · rcases h with (h | ⟨_, h⟩) | ⟨o, its, m, h1, h2, _⟩
      · cases h
      · cases h
      · exact .kTuple h1 h2
theorem RO.tn {a : Addr} {d : D} {t : String} (h : RO K g M H a d) (e : d.tn = some t) : TyX K H (.ref a) (.type t) := by
  cases d <;> first | exact h.elim | (cases e; done) | skip
  · cases e; obtain ⟨_, h, _⟩ := h; exact .base (.lst h)
theorem IR.tn {it : I} {l : List Addr} {w : V} {t : String} (sl : SRs K g M H ρ L σ) (h : IR K g M H ρ σ it l w) (e : it.val.tn = some t) : TyX K H w (.type t) := by
  rcases h.cases sl with r | ⟨a, rfl, r⟩
  · exact r.tn e
  · exact r.tn e
theorem isiB_ {it : I} {t u : String} {b : Bool} (e : it.val.tn = some t) (hk : PySem.W.kitOne K (.type t) (.type u) = some b) (h : Q (.v (.bl b)) ρ n) : GB c ρ n ds (rIsi K) [it, .v (.ty u)] Q := fun σ H vs xs F hl ⟨L, B, s⟩ k => by
  match xs, hl with
  | [x, y], _ =>
  have s1 : St c ρ n (.v (.ty u) :: it :: ds) σ H (y :: x :: vs) := St.rot (is := [.v (.ty u)]) (ws := [y]) rfl ⟨L, B, s⟩
  obtain ⟨L, B, s1⟩ := s1
  obtain ⟨B', lx, ly, s2, mv, hx, hy⟩ := s1.it2
  cases hy.r
  exact ⟨x, .ty u, .type t, .type u, b, rfl, .ty u, hx.tn s1.sl e, hk, k _ _ _ _ _ h ⟨L, B', s2.pushR (.bl _)⟩⟩
/-- a built-in value and an own class -/
theorem isiBO_ {it : I} {t : String} {C : Addr} {b : Bool} (e : it.val.tn = some t) (hk : PySem.W.kitOne K (.type t) (.ref C) = some b) (h : Q (.v (.bl b)) ρ n) : GB c ρ n ds (rIsi K) [it, .v (.glo C)] Q := fun σ H vs xs F hl ⟨L, B, s⟩ k => by
  match xs, hl with
  | [x, y], _ =>
  obtain ⟨L, B, s1⟩ := (St.rot (is := [.v (.glo C)]) (ws := [y]) rfl ⟨L, B, s⟩ : St c ρ n (.v (.glo C) :: it :: ds) σ H (y :: x :: vs))
  obtain ⟨B', lx, ly, s2, mv, hx, hy⟩ := s1.it2
  cases hy.r
  exact ⟨x, .ref C, .type t, .ref C, b, rfl, .own C, hx.tn s1.sl e, hk, k _ _ _ _ _ h ⟨L, B', s2.pushR (.bl _)⟩⟩
theorem IR.ins {it : I} {l : List Addr} {w : V} {C : Addr} {fs : List (Str × D)} (sl : SRs K g M H ρ L σ) (h : IR K g M H ρ σ it l w) (e : it.val = .ins C fs) : ∃ a dx fv, w = .ref a ∧ H a = some (.ins C dx fv) ∧ RF K g M H fv fs := by
  rcases h.cases sl with r | ⟨a, rfl, r⟩
  · rw [e] at r; cases r with | ins n h r => exact ⟨_, _, _, rfl, h, r⟩
  · rw [e] at r; obtain ⟨dx, fv, h, r⟩ := r; exact ⟨a, dx, fv, rfl, h, r⟩
/-- an instance and an own class -/
theorem isiO_ {it : I} {C E : Addr} {nm : Str} {CP : Addr} {fs : List (Str × D)} {b : Bool} (e : it.val = .ins C fs) (pc : HC.PC K CP C nm) (hk : PySem.W.kitOne K (.ref C) (.ref E) = some b) (h : Q (.v (.bl b)) ρ n) : GB c ρ n ds (rIsi K) [it, .v (.glo E)] Q := fun σ H vs xs F hl ⟨L, B, s⟩ k => by
  match xs, hl with
  | [x, y], _ =>
  obtain ⟨L, B, s1⟩ := (St.rot (is := [.v (.glo E)]) (ws := [y]) rfl ⟨L, B, s⟩ : St c ρ n (.v (.glo E) :: it :: ds) σ H (y :: x :: vs))
  obtain ⟨B', lx, ly, s2, mv, hx, hy⟩ := s1.it2
  cases hy.r
  obtain ⟨a, dx, fv, rfl, ha, _⟩ := hx.ins s1.sl e
  exact ⟨.ref a, .ref E, .ref C, .ref E, b, rfl, .own E, pc.ty ha, hk, k _ _ _ _ _ h ⟨L, B', s2.pushR (.bl _)⟩⟩
/-- an instance and a built-in type -/
theorem isiOB_ {it : I} {C : Addr} {u : String} {nm : Str} {CP : Addr} {fs : List (Str × D)} {b : Bool} (e : it.val = .ins C fs) (pc : HC.PC K CP C nm) (hk : PySem.W.kitOne K (.ref C) (.type u) = some b) (h : Q (.v (.bl b)) ρ n) : GB c ρ n ds (rIsi K) [it, .v (.ty u)] Q := fun σ H vs xs F hl ⟨L, B, s⟩ k => by
  match xs, hl with
  | [x, y], _ =>
  obtain ⟨L, B, s1⟩ := (St.rot (is := [.v (.ty u)]) (ws := [y]) rfl ⟨L, B, s⟩ : St c ρ n (.v (.ty u) :: it :: ds) σ H (y :: x :: vs))
  obtain ⟨B', lx, ly, s2, mv, hx, hy⟩ := s1.it2
  cases hy.r
  obtain ⟨a, dx, fv, rfl, ha, _⟩ := hx.ins s1.sl e
  exact ⟨.ref a, .ty u, .ref C, .type u, b, rfl, .ty u, pc.ty ha, hk, k _ _ _ _ _ h ⟨L, B', s2.pushR (.bl _)⟩⟩
/-! ### fields, classes, names -/
theorem RF.get {fv : List (Str × V)} {fs : List (Str × D)} {f : Str} {d : D} (h : RF K g M H fv fs) (e : fs.lookup f = some d) : ∃ v, fv.lookup f = some v ∧ R K g M H v d := h.at e
theorem fld_ {ta : TE} {f : Str} (h : GE c ρ n ds ta fun it ρ' n' => ∃ C fs d, it.val = .ins C fs ∧ Cls K C ∧ NoAttr K C f ∧ fs.lookup f = some d ∧ Q (.v d) ρ' n') : GE c ρ n ds (tFld K ta f) Q := fun σ H vs F s k =>
  h σ H vs _ s fun it ρ' n' x H' ⟨C, fs, d, e, hc, hn, hl, q⟩ ⟨L, B, s⟩ => by
    obtain ⟨B', lx, s2, mv, hx⟩ := s.it1
    obtain ⟨a, dx, fv, rfl, ha, rf⟩ := hx.ins s.sl e
    obtain ⟨v, hv, rv⟩ := rf.at hl
    exact ⟨a, C, dx, fv, v, rfl, ha, hc, hn, hv, k _ _ _ _ _ q ⟨L, B', s2.pushR (rv.mv mv)⟩⟩
theorem cls_ {ta : TE} (h : GE c ρ n ds ta fun it ρ' n' => ∃ C fs, it.val = .ins C fs ∧ HP.HasCls K C ∧ Q (.v (.glo C)) ρ' n') : GE c ρ n ds (HP.tClass K ta) Q := fun σ H vs F s k =>
  h σ H vs _ s fun it ρ' n' x H' ⟨C, fs, e, hc, q⟩ ⟨L, B, s⟩ => by
    obtain ⟨B', lx, s2, mv, hx⟩ := s.it1
    obtain ⟨a, dx, fv, rfl, ha, rf⟩ := hx.ins s.sl e
    exact ⟨a, C, dx, fv, rfl, ha, hc, k _ _ _ _ _ q ⟨L, B', s2.pushR (.glo C)⟩⟩
theorem name_ {ta : TE} (h : GE c ρ n ds ta fun it ρ' n' => ∃ C nm, it = .v (.glo C) ∧ HP.ClsNm K C nm ∧ Q (.v (.str nm)) ρ' n') : GE c ρ n ds (HP.tName K ta) Q := fun σ H vs F s k =>
  h σ H vs _ s fun it ρ' n' x H' ⟨C, nm, e, hc, q⟩ s => by
    subst e
    obtain ⟨M, r⟩ := s.one
    cases r
    exact ⟨C, nm, rfl, hc, k _ _ _ _ _ q (s.pop.pushS rfl)⟩
/-! ### self.f = e -/
def putD (f : Str) (d : D) : List (Str × D) → List (Str × D)
  | [] => [(f, d)]
  | (x, u) :: r => if x = f then (x, d) :: r else (x, u) :: putD f d r
theorem RF.put {f : Str} {v : V} {d : D} (h : R K g M H v d) : ∀ {fv : List (Str × V)} {fs : List (Str × D)}, RF K g M H fv fs → RF K g M H (putF f v fv) (putD f d fs)
  | _, _, .nil => by unfold putF putD; exact .cons h .nil
  | _, _, .cons (f := x) a b => by
    unfold putF putD
    by_cases e : x = f
    · rw [if_pos e, if_pos e]; exact .cons h b
    · rw [if_neg e, if_neg e]; exact .cons a (RF.put h b)
theorem RF.len : ∀ {fv : List (Str × V)} {fs : List (Str × D)}, RF K g M H fv fs → fv.length = fs.length
  | _, _, .nil => rfl
  | _, _, .cons a b => by rw [List.length_cons, List.length_cons, RF.len b]
theorem setf_ {ta tv : TE} {f : Str} {nx bk ct : QS} {rt : I → Nat → Prop} (h : GE c ρ n ds tv fun it ρ1 n1 => GE c ρ1 n1 (it :: ds) ta fun io ρ2 n2 => ∃ i d0 C fs, io = .b i d0 ∧ clean ds = true ∧ (frz1 ρ2 it)[i]? = some (.ow (.ins C fs)) ∧ Cls K C ∧ NoAttr K C f ∧ Nat.ble fs.length 900 = true ∧ nx ((frz1 ρ2 it).set i (.ow (.ins C (putD f it.val fs)))) n2) : GS c ρ n ds (sFld K ta tv f) ⟨nx, rt, bk, ct⟩ := fun σ H vs E s k =>
  h σ H vs _ s fun it ρ1 n1 y H1 q1 s1 => q1 σ H1 (y :: vs) _ s1 fun io ρ2 n2 x H2 ⟨i, d0, C, fs, e, hc, hi, hC, hn, hl, q⟩ s2 => by
    subst e
    have s3 := St.frz1 (St.rot' (is := [.b i d0]) (ws := [x]) rfl s2)
    obtain ⟨L, B, s3⟩ := s3
    have hv := s3.val
    have hs : σ[i]? = some (some x) := slotOf s3
    obtain ⟨B', lx, ly, s4, mv, _, _⟩ := s3.it2
    obtain ⟨a, e1, ⟨dx, fv, ha, rf⟩, w⟩ := s4.wrS hc hi
    rw [hs] at e1; cases e1
    have := Nat.le_of_ble_eq_true hl
    have hlen := rf.len
    exact ⟨a, C, dx, fv, rfl, ha, hC, hn, by omega, k.nx _ _ _ _ q ⟨L, B', w fun m => ⟨dx, _, upd_same, (rf.put (hv.mv mv)).mv m⟩⟩⟩
end
end HD
/-! chains of comparisons, constructors, own == and truth, calls by names -/
namespace HD
open PySem PySem.Spec PyProof.Rows L2 HX
section
variable {K : PySem.W.Frag} {c : Wd K} {ρ : List S} {n : Nat} {ds : List I} {L B : List Addr} {σ : L2.St} {H H' : Hp} {vs : List V} {v : V} {p : Addr} {Q : QI} {QB : Bool → QS} {g : Addr} {M : Addr → Prop}
/-! ### chains -/
theorem St.dup {d : D} {ix : I} {x y : V} (s : St c ρ n (.v d :: ix :: ds) σ H (y :: x :: vs)) : St c ρ n (.v d :: ix :: .v d :: ds) σ H (y :: x :: y :: vs) := by
  obtain ⟨L, B, s⟩ := s
  have s2 : St c ρ n (.v d :: ([.v d, ix] ++ ds)) σ H (y :: ([y, x] ++ vs)) := ⟨L, B, s.pushR s.val⟩
  exact St.rot (is := [.v d, ix]) (ws := [y, x]) rfl s2
theorem chain_ {r r' : R2} {ta tb tc : TE} (h : GE c ρ n ds ta fun ix ρ1 n1 => GE c ρ1 n1 (ix :: ds) tb fun iy ρ2 n2 => ∃ d, iy = .v d ∧ GO c ρ2 n2 (.v d :: ds) r ix (.v d) fun iz ρ3 n3 => ∃ b, iz = .v (.bl b) ∧ if b = true then GE c ρ3 n3 (.v d :: ds) tc fun iw ρ4 n4 => GO c ρ4 n4 ds r' (.v d) iw Q else Q (.v (.bl false)) ρ3 n3) : GE c ρ n ds (tChain r r' ta tb tc) Q := fun σ H vs F s k =>
  h σ H vs _ s fun ix ρ1 n1 x H1 q1 s1 => q1 σ H1 (x :: vs) _ s1 fun iy ρ2 n2 y H2 ⟨d, e, q2⟩ s2 => by
    subst e
    refine q2 σ H2 (y :: vs) x y _ s2.dup fun iz ρ3 n3 z H3 ⟨b, e, q3⟩ s3 => ?_
    subst e
    obtain rfl := R.eBl s3.one
    refine ⟨b, rfl, ?_⟩
    cases b with
    | true => rw [if_pos rfl] at q3 ⊢; exact q3 σ H3 (y :: vs) _ s3.pop fun iw ρ4 n4 w H4 q4 s4 => q4 σ H4 vs y w F s4 k
    | false => rw [if_neg Bool.false_ne_true] at q3 ⊢; exact k _ _ _ _ _ q3 (s3.pop.pop.pushS rfl)
def GC (c : Wd K) (ρ : List S) (n : Nat) (ds : List I) (t : V → TE) (d : D) (Q : QI) : Prop :=
  ∀ σ H vs x (F : VK), St c ρ n (.v d :: ds) σ H (x :: vs) → (∀ it ρ' n' v H', Q it ρ' n' → St c ρ' n' (it :: ds) σ H' (v :: vs) → F v H') → t x σ H F
def GC2 (c : Wd K) (ρ : List S) (n : Nat) (ds : List I) (t : V → TT) (d : D) (Q : Bool → QS) : Prop :=
  ∀ σ H vs x (F : Bool → Hp → Prop), St c ρ n (.v d :: ds) σ H (x :: vs) → (∀ b ρ' n' H', Q b ρ' n' → St c ρ' n' ds σ H' vs → F b H') → t x σ H F
theorem ch_ {ta : TE} {t : V → TE} (h : GE c ρ n ds ta fun ix ρ1 n1 => ∃ d, ix = .v d ∧ GC c ρ1 n1 ds t d Q) : GE c ρ n ds (HP.tCh ta t) Q := fun σ H vs F s k =>
  h σ H vs _ s fun ix ρ1 n1 x H1 ⟨d, e, q1⟩ s1 => by subst e; exact q1 σ H1 vs x F s1 k
theorem ch2_ {ta : TE} {t : V → TT} (h : GE c ρ n ds ta fun ix ρ1 n1 => ∃ d, ix = .v d ∧ GC2 c ρ1 n1 ds t d QB) : GT c ρ n ds (HP.tCh2 ta t) QB := fun σ H vs F s k =>
  h σ H vs _ s fun ix ρ1 n1 x H1 ⟨d, e, q1⟩ s1 => by subst e; exact q1 σ H1 vs x F s1 k
theorem chL_ {r : R2} {tb : TE} {d : D} (h : GE c ρ n (.v d :: ds) tb fun iy ρ2 n2 => GO c ρ2 n2 ds r (.v d) iy Q) : GC c ρ n ds (HP.tChL r tb) d Q := fun σ H vs x F s k =>
  h σ H (x :: vs) _ s fun iy ρ2 n2 y H2 q2 s2 => q2 σ H2 vs x y F s2 k
theorem chL2_ {r : R2} {tb : TE} {d : D} (h : GE c ρ n (.v d :: ds) tb fun iy ρ2 n2 => GO c ρ2 n2 ds r (.v d) iy fun iz ρ3 n3 => ∃ b, iz = .v (.bl b) ∧ QB b ρ3 n3) : GC2 c ρ n ds (HP.tChL2 r tb) d QB := fun σ H vs x F s k =>
  h σ H (x :: vs) _ s fun iy ρ2 n2 y H2 q2 s2 => q2 σ H2 vs x y _ s2 fun iz ρ3 n3 z H3 ⟨b, e, q3⟩ s3 => by
    subst e
    obtain rfl := R.eBl s3.one
    exact ⟨b, rfl, k _ _ _ _ q3 s3.pop⟩
theorem chC_ {r : R2} {tb : TE} {t : V → TE} {d : D} (h : GE c ρ n (.v d :: ds) tb fun iy ρ2 n2 => ∃ e, iy = .v e ∧ GO c ρ2 n2 (.v e :: ds) r (.v d) (.v e) fun iz ρ3 n3 => ∃ b, iz = .v (.bl b) ∧ if b = true then GC c ρ3 n3 ds t e Q else Q (.v (.bl false)) ρ3 n3) : GC c ρ n ds (HP.tChC r tb t) d Q := fun σ H vs x F s k =>
  h σ H (x :: vs) _ s fun iy ρ2 n2 y H2 ⟨e, he, q2⟩ s2 => by
    subst he
    refine q2 σ H2 (y :: vs) x y _ s2.dup fun iz ρ3 n3 z H3 ⟨b, eb, q3⟩ s3 => ?_
    subst eb
    obtain rfl := R.eBl s3.one
    refine ⟨b, rfl, ?_⟩
    cases b with
    | true => rw [if_pos rfl] at q3 ⊢; exact q3 σ H3 vs y F s3.pop k
    | false => rw [if_neg Bool.false_ne_true] at q3 ⊢; exact k _ _ _ _ _ q3 (s3.pop.pop.pushS rfl)
theorem chC2_ {r : R2} {tb : TE} {t : V → TT} {d : D} (h : GE c ρ n (.v d :: ds) tb fun iy ρ2 n2 => ∃ e, iy = .v e ∧ GO c ρ2 n2 (.v e :: ds) r (.v d) (.v e) fun iz ρ3 n3 => ∃ b, iz = .v (.bl b) ∧ if b = true then GC2 c ρ3 n3 ds t e QB else QB false ρ3 n3) : GC2 c ρ n ds (HP.tChC2 r tb t) d QB := fun σ H vs x F s k =>
  h σ H (x :: vs) _ s fun iy ρ2 n2 y H2 ⟨e, he, q2⟩ s2 => by
    subst he
    refine q2 σ H2 (y :: vs) x y _ s2.dup fun iz ρ3 n3 z H3 ⟨b, eb, q3⟩ s3 => ?_
    subst eb
    obtain rfl := R.eBl s3.one
    refine ⟨b, rfl, ?_⟩
    cases b with
    | true => rw [if_pos rfl] at q3 ⊢; exact q3 σ H3 vs y F s3.pop k
    | false => rw [if_neg Bool.false_ne_true] at q3 ⊢; exact k _ _ _ _ q3 s3.pop.pop
/-! ### a new thing of nobody's from outside -/
theorem StX.ownNew {m : Nat} {H2 : Hp} {d : D} (s : StX c L B ρ n ds σ H vs) (k : Kept c.g H H2) (h : Hat H2 c.g c.k c.ns m) (hp : H p = none) (r : RO K c.g (fun a => Mo c (L ++ B) a ∨ a = p) H2 p d) : StX c L ([p] ++ B) ρ m (.o d :: ds) σ H2 (.ref p :: vs) := by
  have np : ¬ Mo c (L ++ B) p := s.free hp
  have npl : p ∉ L ++ B := fun z => np (.inr z)
  have hc : c.H0 p = none := by
    cases z : c.H0 p with
    | none => rfl
    | some o =>
      have : p ≠ c.g := fun e => np (.inl (e ▸ s.mg))
      have := s.kp _ _ this z
      rw [hp] at this; cases this
  have mv : Mv (Mo c (L ++ B)) (Mo c (L ++ ([p] ++ B))) H H2 := fun a o na ho => by
    have ng : a ≠ c.g := fun e => na (.inl (e ▸ s.mg))
    refine ⟨fun z => ?_, k a o ng ho⟩
    rcases z with z | z
    · exact na (.inl z)
    · simp only [List.mem_append, List.mem_singleton] at z
      rcases z with z | z | z
      · exact na (.inr (List.mem_append_left _ z))
      · rw [z, hp] at ho; cases ho
      · exact na (.inr (List.mem_append_right _ z))
  have hk : ∀ a ∈ L ++ B, ∀ o, H a = some o → H2 a = some o := fun a ha o ho => k a o (fun z => (s.fr a ha).1 (z ▸ s.mg)) ho
  refine ⟨s.sl.mv mv fun a ha => hk a (List.mem_append_left _ ha), .cons (l := [p]) (.o (r.mv (mv_less fun a ha => ?_) fun _ h => h)) (s.it.mv mv fun a ha => hk a (List.mem_append_right _ ha)), ?_, fun a ha => ?_, s.kp.trans k, h, s.mg, s.ml, s.md⟩
  · rcases ha with ha | ha
    · exact .inl (.inl ha)
    · simp only [List.mem_append, List.mem_singleton] at ha
      rcases ha with z | z | z
      · exact .inl (.inr (List.mem_append_left _ z))
      · exact .inr z
      · exact .inl (.inr (List.mem_append_right _ z))
  · exact (List.perm_middle (a := p) (l₁ := L) (l₂ := B)).nodup_iff.mpr (List.nodup_cons.mpr ⟨npl, s.nd⟩)
  · simp only [List.mem_append, List.mem_singleton] at ha
    rcases ha with z | z | z
    · exact s.fr a (List.mem_append_left _ z)
    · rw [z]; exact ⟨fun q => np (.inl q), hc⟩
    · exact s.fr a (List.mem_append_right _ z)
/-! ### calls by names -/
def permD (idx : List Nat) (ds : List D) : List D := if ds.length = idx.length then idx.map fun i => ds.getD i .non else []
theorem RA.getD {ws : List V} {ds : List D} (h : RA K g M H ws ds) (i : Nat) : R K g M H (ws.getD i .non) (ds.getD i .non) := by
  cases e : ds[i]? with
  | none =>
    have h1 : ds.length ≤ i := List.getElem?_eq_none_iff.mp e
    rw [List.getD_eq_getElem?_getD, List.getD_eq_getElem?_getD, e, List.getElem?_eq_none (by rw [h.len]; exact h1)]
    exact .non
  | some d =>
    obtain ⟨w, hw, r⟩ := h.at e
    rw [List.getD_eq_getElem?_getD, List.getD_eq_getElem?_getD, e, hw]
    exact r
theorem RA.perm {idx : List Nat} {ws : List V} {ds : List D} (h : RA K g M H ws ds) : RA K g M H (HB.perm idx .non [] ws) (permD idx ds) := by
  unfold HB.perm permD
  rw [h.len]
  by_cases e : ds.length = idx.length
  · rw [if_pos ⟨rfl, e⟩, if_pos e]
    clear e
    induction idx with
    | nil => exact .nil
    | cons i t ih => exact .cons (h.getD i) ih
  · rw [if_neg (fun z => e z.2), if_neg e]; exact .nil
theorem callG {sp : SpD} {gV : List V → List V} {gD : List D → List D} (hg : ∀ {g M H ws ds}, RA K g M H ws ds → RA K g M H (gV ws) (gD ds)) {t : TA} (h : GA c ρ n ds t fun its ρ' n' => sp (gD (its.map I.val)) n' (fun it n2 => Q it (frz its ρ') n2) fun _ _ _ => False) : GE c ρ n ds (fun σ H F => t σ H fun vs H1 => lift K sp (gV vs) H1 F E0) Q := fun σ H vs F s k =>
  h σ H vs _ s fun its ρ' n' xs H' q hl s' => by
    obtain ⟨L, B, s2, ra⟩ := items hl s'
    refine ⟨⟨c.g, c.k, c.ns, Mo c (L ++ B), H'⟩, n', _, _, _, ⟨rfl, s2.hat, .inl s2.mg, .inl s2.ml, s2.at, hg ra, fun it m v H2 q2 k2 h2 r2 => ?_, fun C fs n' x H' z => z.elim⟩, q⟩
    cases it with
    | v d => exact k _ _ _ _ _ q2 ⟨L, B, (s2.kept k2 h2).pushR r2⟩
    | b _ _ => exact r2.elim
    | o ys =>
      obtain ⟨p, rfl, hp, np, rr⟩ := r2
      exact k _ _ _ _ _ q2 ⟨L, _, s2.ownNew k2 h2 hp rr⟩
theorem callK_ {sp : SpD} {idx : List Nat} {t : TA} (h : GA c ρ n ds t fun its ρ' n' => sp (permD idx (its.map I.val)) n' (fun it n2 => Q it (frz its ρ') n2) fun _ _ _ => False) : GE c ρ n ds (HB.tCallN0 (lift K sp) (HB.perm idx .non) E0 t) Q := callG (gV := HB.perm idx .non []) (gD := permD idx) (fun r => r.perm) h
/-! ### constructors -/
abbrev SpI := List D → Nat → (List (Str × D) → Nat → Prop) → XD → Prop
def del (H : Hp) (x : Addr) : Hp := fun b => if b = x then none else H b
structure InitOk (c : Wd K) (H : Hp) (x C dx : Addr) (n : Nat) (ws : List V) (ds : List D) (Q : VK) (E : XK) (Qd : List (Str × D) → Nat → Prop) (Ed : XD) : Prop where
  h0 : c.H0 = del H x
  hx : H x = some (.ins C dx [])
  nx : ¬ c.M0 x
  hat : Hat H c.g c.k c.ns n
  mg : c.M0 c.g
  ml : c.M0 c.k
  md : ∀ a, c.M0 a → ∃ o, H a = some o
  ra : RA K c.g (fun a => c.M0 a ∨ a = x) H ws ds
  q : ∀ fs n' H', Qd fs n' → Kept c.g c.H0 H' → Hat H' c.g c.k c.ns n' → RO K c.g (fun a => c.M0 a ∨ a = x) H' x (.ins C fs) → Q .non H'
def liftI (K : PySem.W.Frag) (C : Addr) (sp : SpI) : Sp := fun vs H Q E => ∃ (c : Wd K) (n : Nat) (x dx : Addr) (ws : List V) (ds : List D) (Qd : List (Str × D) → Nat → Prop) (Ed : XD), vs = .ref x :: ws ∧ InitOk c H x C dx n ws ds Q E Qd Ed ∧ sp ds n Qd Ed
theorem make_ {C : Addr} {sp : SpI} {t : TA} (h : GA c ρ n ds t fun its ρ' n' => sp (its.map I.val) n' (fun fs n2 => Q (.o (.ins C fs)) (frz its ρ') n2) fun _ _ _ => False) : GE c ρ n ds (StX.tMakeR C (liftI K C sp) E0 t) Q := fun σ H vs F s k =>
  h σ H vs _ s fun its ρ' n' xs H' q hl s' => by
    intro x dx hx hdx hne
    obtain ⟨L, B, s2, ra⟩ := items hl s'
    have nmx : ¬ Mo c (L ++ B) x := s2.free hx
    have nmd : ¬ Mo c (L ++ B) dx := s2.free hdx
    have sm : Same H' (upd (upd H' dx (.own x)) x (.ins C dx [])) := fun b o hb => by
      rw [upd_ne (ne_of_none hb hx), upd_ne (ne_of_none hb hdx)]; exact hb
    have ra2 : RA K c.g (fun a => Mo c (L ++ B) a ∨ a = x) (upd (upd H' dx (.own x)) x (.ins C dx [])) xs (its.map I.val) := ra.mv fun a o na ho => ⟨fun z => z.elim na fun e => (by rw [e, hx] at ho; cases ho), sm a o ho⟩
    have fin : ∀ fs m H2, Q (.o (.ins C fs)) (frz its ρ') m → Kept c.g (del (upd (upd H' dx (.own x)) x (.ins C dx [])) x) H2 → Hat H2 c.g c.k c.ns m → RO K c.g (fun a => Mo c (L ++ B) a ∨ a = x) H2 x (.ins C fs) → F (.ref x) H2 := fun fs m H2 q2 k2 h2 r2 => by
      refine k _ _ _ _ _ q2 ⟨L, _, s2.ownNew (fun b o nb hb => k2 b o nb ?_) h2 hx r2⟩
      have : b ≠ x := ne_of_none hb hx
      show (if b = x then none else _) = _
      rw [if_neg this]
      exact sm b o hb
    have md : ∀ a, Mo c (L ++ B) a → ∃ o, (upd (upd H' dx (.own x)) x (.ins C dx [])) a = some o := fun a ha => by
      obtain ⟨o, ho⟩ := s2.at a ha
      exact ⟨o, sm a o ho⟩
    exact ⟨⟨c.g, c.k, c.ns, Mo c (L ++ B), del (upd (upd H' dx (.own x)) x (.ins C dx [])) x⟩, n', x, dx, xs, _, _, _, rfl, ⟨rfl, upd_same, nmx, s2.hat.same sm, .inl s2.mg, .inl s2.ml, md, ra2, fun fs m H2 q2 k2 h2 r2 => ⟨rfl, fin fs m H2 q2 k2 h2 r2⟩⟩, q⟩
/-- into the body of an __init__ -/
theorem enterI {H : Hp} {x C dx : Addr} {ws : List V} {es : List D} {Q : VK} {E : XK} {Qd : List (Str × D) → Nat → Prop} {Ed : XD} {σ : L2.St} {R : L2.St → Hp → Prop} (k : InitOk c H x C dx n ws es Q E Qd Ed) {m : Nat} (eσ : σ = (V.ref x :: ws).map some ++ List.replicate m none)
    (h : ∀ L, StX c L [] (.me x (.ins C []) :: (es.map S.v ++ List.replicate m S.un)) n [] σ H [] → R σ H) : R σ H := by
  refine h [x] ⟨?_, .nil, ?_, fun a ha => ?_, ?_, k.hat, k.mg, k.ml, fun a ha => ?_⟩
  · rw [eσ]
    have mo : Mo c ([x] ++ []) = fun a => c.M0 a ∨ a = x := by
      funext a
      refine propext ⟨fun z => z.elim .inl fun z => .inr (by simpa using z), fun z => z.elim .inl fun z => .inr (by simpa using z)⟩
    rw [mo]
    refine SRs.cons (l := [x]) (.me ⟨dx, _, k.hx, .nil⟩) ?_
    have ra := k.ra
    clear k h eσ
    have un : ∀ m : Nat, SRs K c.g (fun a => c.M0 a ∨ a = x) H (List.replicate m S.un) [] (List.replicate m none) := fun m => by
      induction m with
      | zero => exact .nil
      | succ m ih => exact .cons (l := []) (.un _) ih
    induction es generalizing ws with
    | nil => cases ra; exact un m
    | cons d ds ih => cases ra with | cons a b => exact .cons (l := []) (.v a) (ih b)
  · exact List.nodup_cons.mpr ⟨(fun z => by cases z), List.nodup_nil⟩
  · have : a = x := by simpa using ha
    subst this
    refine ⟨k.nx, ?_⟩
    rw [k.h0]; unfold del; rw [if_pos rfl]
  · rw [k.h0]
    intro b o nb hb
    unfold del at hb
    split at hb
    · cases hb
    · exact hb
  · obtain ⟨o, ho⟩ := k.md a ha
    rw [k.h0]
    refine ⟨o, ?_⟩
    unfold del
    rw [if_neg (fun e : a = x => k.nx (e ▸ ha))]
    exact ho
/-- out of it -/
theorem leaveI {H0 H : Hp} {x C dx : Addr} {ws : List V} {es : List D} {Q : VK} {E : XK} {Qd : List (Str × D) → Nat → Prop} {Ed : XD} {fs : List (Str × D)} (k : InitOk c H0 x C dx n ws es Q E Qd Ed) {m : Nat} (s : St c ρ m [] σ H vs) (h0 : ρ[0]? = some (.me x (.ins C fs))) (q : Qd fs m) : Q .non H := by
  obtain ⟨L, B, s⟩ := s
  obtain ⟨L1, l, L2, y, e1, e2, e3, _⟩ := s.sl.at h0
  cases e3 with
  | me r =>
    refine k.q fs m H q s.kp s.hat (r.mv (fun b o nb ho => ⟨fun z => nb (z.elim .inl fun e => .inr ?_), ho⟩) fun _ h => h)
    rw [e, e1]; simp
def SM (K : PySem.W.Frag) (ds : List I) (f : Str) (it io : I) (ρ2 : List S) (n2 : Nat) (nx : QS) : Prop := ∃ i d0 x C fs, io = .b i d0 ∧ clean ds = true ∧ (frz1 ρ2 it)[i]? = some (.me x (.ins C fs)) ∧ Cls K C ∧ NoAttr K C f ∧ Nat.ble fs.length 900 = true ∧ nx ((frz1 ρ2 it).set i (.me x (.ins C (putD f it.val fs)))) n2
theorem setM_ {ta tv : TE} {f : Str} {nx bk ct : QS} {rt : I → Nat → Prop} (h : GE c ρ n ds tv fun it ρ1 n1 => GE c ρ1 n1 (it :: ds) ta fun io ρ2 n2 => SM K ds f it io ρ2 n2 nx) : GS c ρ n ds (sFld K ta tv f) ⟨nx, rt, bk, ct⟩ := fun σ H vs E s k =>
  h σ H vs _ s fun it ρ1 n1 y H1 q1 s1 => q1 σ H1 (y :: vs) _ s1 fun io ρ2 n2 x H2 ⟨i, d0, x0, C, fs, e, hc, hi, hC, hn, hl, q⟩ s2 => by
    subst e
    have s3 := St.frz1 (St.rot' (is := [.b i d0]) (ws := [x]) rfl s2)
    obtain ⟨L, B, s3⟩ := s3
    have hv := s3.val
    have hs : σ[i]? = some (some x) := slotOf s3
    obtain ⟨B', lx, ly, s4, mv, _, _⟩ := s3.it2
    obtain ⟨e1, ⟨dx, fv, ha, rf⟩, w⟩ := s4.wrM hc hi
    rw [hs] at e1; cases e1
    have := Nat.le_of_ble_eq_true hl
    have hlen := rf.len
    exact ⟨_, C, dx, fv, rfl, ha, hC, hn, by omega, k.nx _ _ _ _ q ⟨L, B', w fun m => ⟨dx, _, upd_same, (rf.put (hv.mv mv)).mv m⟩⟩⟩
/-- the base's __init__ first -/
theorem super_ {H : Hp} {x C : Addr} {ta : TA} {tr : TS} {spB : SpI} {D : Es} {E : Ends} (hds : ds = []) (h : GA c ρ n [] ta fun its ρ' n' => (frz its ρ')[0]? = some (.me x (.ins C [])) ∧ spB (its.map I.val) n' (fun fs n2 => GS c ((frz its ρ').set 0 (.me x (.ins C fs))) n2 [] tr D) fun _ _ _ => False)
    (s : St c ρ n [] σ H []) (k : EOk c [] [] D E) : ta σ H fun us H1 => liftI K C spB (.ref x :: us) H1 (fun _ H2 => tr E σ H2) E0 := by
  refine h σ H [] _ s fun its ρ' n' xs H1 ⟨h0, q⟩ hl s1 => ?_
  rw [List.append_nil, List.append_nil] at s1
  have s1' : St c ρ' n' (its ++ []) σ H1 (xs ++ []) := by rw [List.append_nil, List.append_nil]; exact s1
  obtain ⟨L, B, s2, ra⟩ := items hl s1'
  generalize frz its ρ' = ρ2 at h0 q s2
  have hl0 : 0 < ρ2.length := (List.getElem?_eq_some_iff.mp h0).1
  obtain ⟨L1, l, L2, y, e1, e2, e3, e4⟩ := s2.sl.atM h0
  cases e3 with
  | @me a _ r =>
    subst e1
    obtain ⟨dx, fv, hx, rf⟩ := r
    cases rf
    -- what else may change outside
    have nd : x ∉ (L1 ++ L2) ++ B := by
      have pm : ((L1 ++ ([x] ++ L2)) ++ B).Perm (x :: ((L1 ++ L2) ++ B)) := by
        rw [show L1 ++ ([x] ++ L2) = L1 ++ x :: L2 from rfl, List.append_assoc, List.append_assoc]
        exact List.perm_middle
      exact (List.nodup_cons.mp (pm.nodup_iff.mp s2.nd)).1
    have hm : x ∈ (L1 ++ ([x] ++ L2)) ++ B := by simp
    have nx : ¬ Mo c ((L1 ++ L2) ++ B) x := fun z => z.elim (s2.fr x hm).1 nd
    have sub : ∀ b ∈ (L1 ++ L2) ++ B, b ∈ (L1 ++ ([x] ++ L2)) ++ B := fun b hb => by
      simp only [List.mem_append, List.mem_singleton] at hb ⊢
      rcases hb with (z | z) | z
      · exact .inl (.inl z)
      · exact .inl (.inr (.inr z))
      · exact .inr z
    have mo : ∀ a, Mo c ((L1 ++ L2) ++ B) a ∨ a = x → Mo c ((L1 ++ ([x] ++ L2)) ++ B) a := fun a z => z.elim (mo_less sub a) fun e => .inr (by rw [e]; exact hm)
    have om : ∀ a, Mo c ((L1 ++ ([x] ++ L2)) ++ B) a → Mo c ((L1 ++ L2) ++ B) a ∨ a = x := fun a z => by
      rcases z with z | z
      · exact .inl (.inl z)
      · simp only [List.mem_append, List.mem_singleton] at z
        rcases z with (z | z | z) | z
        · exact .inl (.inr (by simp [z]))
        · exact .inr z
        · exact .inl (.inr (by simp [z]))
        · exact .inl (.inr (by simp [z]))
    refine ⟨⟨c.g, c.k, c.ns, Mo c ((L1 ++ L2) ++ B), del H1 x⟩, n', x, dx, xs, _, _, _, rfl, ⟨rfl, hx, nx, s2.hat, .inl s2.mg, .inl s2.ml, fun a ha => s2.at a (mo_less sub a ha), ra.mv (mv_less mo), fun fs m H2 q2 k2 h2 r2 => ?_⟩, q⟩
    refine q2 σ H2 [] E ?_ k
    have kk : ∀ b o, b ≠ x → b ≠ c.g → H1 b = some o → H2 b = some o := fun b o nb ng hb => k2 b o ng (by show (if b = x then none else H1 b) = some o; rw [if_neg nb]; exact hb)
    have hag : x ≠ c.g := fun e => (s2.fr x hm).1 (e ▸ s2.mg)
    have mv : Mv (Mo c ((L1 ++ ([x] ++ L2)) ++ B)) (Mo c ((L1 ++ ([x] ++ L2)) ++ B)) H1 H2 := fun b o nb hb => ⟨nb, kk b o (fun e => nb (.inr (e ▸ hm))) (fun e => nb (.inl (e ▸ s2.mg))) hb⟩
    have hk : ∀ b ∈ (L1 ++ L2) ++ B, ∀ o, H1 b = some o → H2 b = some o := fun b hb o ho => kk b o (fun e => nd (e ▸ hb)) (fun e => (s2.fr b (sub b hb)).1 (e ▸ s2.mg)) ho
    have sl1 := e4 (l' := [x]) mv (fun b hb => hk b (List.mem_append_left _ hb)) (SR.me (r2.mv (mv_less om) fun _ h => h))
    rw [show σ.set 0 (some (V.ref x)) = σ by
      obtain ⟨h1, h2⟩ := List.getElem?_eq_some_iff.mp e2
      rw [← h2, List.set_getElem_self]] at sl1
    refine ⟨L1 ++ ([x] ++ L2), B, sl1, ?_, s2.nd, s2.fr, ?_, h2, s2.mg, s2.ml, s2.md⟩
    · have := (s2.it.mv mv fun b hb => hk b (List.mem_append_right _ hb))
      exact this.clean rfl
    · intro b o nb hb
      have : b ≠ x := fun e => by have := (s2.fr x hm).2; rw [← e, hb] at this; cases this
      exact kk b o this nb (s2.kp b o nb hb)
/-! ### == and != by an own __eq__, truth by an own __bool__ -/
theorem eqO_ {neg : Bool} {f : Addr} {sp : SpD} {ix iy : I} {C E : Addr} {fs gs : List (Str × D)} (ex : ix.val = .ins C fs) (ey : iy.val = .ins E gs) (ec : HP.EqCls K C E f) (h : sp [ix.val, iy.val] n (fun it n2 => ∃ r, it = .v (.bl r) ∧ Q (.v (.bl (if neg then !r else r))) (frz [iy, ix] ρ) n2) fun _ _ _ => False) : GO c ρ n ds (HP.rEqO neg K f (lift K sp)) ix iy Q := fun σ H vs x y F s k => by
  obtain ⟨L, B, s2, ra⟩ := items (is := [iy, ix]) (ws := [y, x]) rfl s
  cases ra with
  | cons ry rr =>
  cases rr with
  | cons rx r0 =>
  have rx' := rx
  have ry' := ry
  rw [ex] at rx'; rw [ey] at ry'
  cases rx' with
  | @ins a _ dx fv _ na ha rf =>
  cases ry' with
  | @ins b _ dy gv _ nb hb rg =>
  refine ⟨a, b, C, dx, fv, E, dy, gv, rfl, rfl, ha, hb, ec, ?_⟩
  refine ⟨⟨c.g, c.k, c.ns, Mo c (L ++ B), H⟩, n, _, _, _, ⟨rfl, s2.hat, .inl s2.mg, .inl s2.ml, s2.at, .cons rx (.cons ry .nil), fun it m v H2 q2 k2 h2 r2 => ?_, fun C fs n' x H' z => z.elim⟩, h⟩
  obtain ⟨r, e, q⟩ := q2
  subst e
  cases (show R K c.g _ H2 v (.bl r) from r2)
  exact ⟨r, rfl, k _ _ _ _ _ q ⟨L, B, (s2.kept k2 h2).pushR (.bl _)⟩⟩
/-- a test by a value's own truth -/
theorem tru_ {ta : TE} {r : V → Hp → (Bool → Hp → Prop) → Prop} (h : GE c ρ n ds ta fun it ρ' n' => ∃ C fs b, it.val = .ins C fs ∧ (∀ (a dx : Addr) (fv : List (Str × V)) (H : Hp) (F : Bool → Hp → Prop), H a = some (.ins C dx fv) → F b H → r (.ref a) H F) ∧ QB b ρ' n') : GT c ρ n ds (fun σ H Q => ta σ H fun x H' => r x H' Q) QB := fun σ H vs F s k =>
  h σ H vs _ s fun it ρ' n' x H' ⟨C, fs, b, e, hr, q⟩ ⟨L, B, s⟩ => by
    obtain ⟨B', lx, s2, mv, hx⟩ := s.it1
    obtain ⟨a, dx, fv, rfl, ha, rf⟩ := hx.ins s.sl e
    exact hr a dx fv H' F ha (k _ _ _ _ q ⟨L, B', s2⟩)
def truD : D → Option Bool
  | .non => some false
  | .bl b => some b
  | .int i => some (i != 0)
  | .lst xs => some (!xs.isEmpty)
  | .tup xs => some (!xs.isEmpty)
  | _ => none
theorem RA.emp {ws : List V} {xs : List D} (h : RA K g M H ws xs) : (!xs.isEmpty) = !ws.isEmpty := by cases h <;> rfl
theorem R.tru {b : Bool} {d : D} (h : R K g M H v d) (e : truD d = some b) : TruV K v H b := by
  cases h with
  | non => cases e; rfl
  | bl b => cases e; rfl
  | int i => cases e; rfl
  | lst n h1 h2 => cases e; exact .inl ⟨_, SqL.of h1, h2.emp⟩
  | tup h1 h2 => cases e; exact .inr (.inl ⟨_, h1.sqt, h2.emp⟩)
  | _ => cases e
theorem trv_ {ta : TE} (h : GE c ρ n ds ta fun it ρ' n' => ∃ b, truD it.val = some b ∧ QB b ρ' n') : GT c ρ n ds (fun σ H Q => ta σ H fun x H' => ∃ k, TruV K x H' k ∧ Q k H') QB := fun σ H vs F s k =>
  h σ H vs _ s fun it ρ' n' x H' ⟨b, e, q⟩ ⟨L, B, s⟩ => by
    obtain ⟨B', lx, s2, mv, hx⟩ := s.it1
    have fin := k _ _ _ _ q ⟨L, B', s2⟩
    refine ⟨b, ?_, fin⟩
    rcases hx.cases s.sl with r | ⟨a, rfl, r⟩
    · exact r.tru e
    · generalize it.val = d at r e
      cases d <;> first | exact r.elim | (cases e; done) | skip
      · cases e; obtain ⟨_, h1, h2⟩ := r; exact .inl ⟨_, SqL.of h1, h2.emp⟩
end
end HD
/-! what the laws share: draws, fixed values, papers -/
namespace HD
open PySem PySem.Spec PyProof.Rows L2 HX
/-! ### steps that the tactic words use -/
section
variable {K : PySem.W.Frag} {c : Wd K} {ρ : List S} {n : Nat} {ds : List I} {Q : QI} {QG : QS}
theorem varV_ {i : Nat} {d : D} (e : ρ[i]? = some (.v d)) (h : Q (.v d) ρ n) : GE c ρ n ds (tVar i) Q := varG_ (by rw [e]; exact h)
theorem varO_ {i : Nat} {d : D} (e : ρ[i]? = some (.ow d)) (h : Q (.b i d) ρ n) : GE c ρ n ds (tVar i) Q := varG_ (by rw [e]; exact h)
theorem varM_ {i : Nat} {a : Addr} {d : D} (e : ρ[i]? = some (.me a d)) (h : Q (.b i d) ρ n) : GE c ρ n ds (tVar i) Q := varG_ (by rw [e]; exact h)
theorem ble_ {a b : Nat} {P : Prop} (e : Nat.ble a b = true) (h : P) : Nat.ble a b = true ∧ P := ⟨e, h⟩
theorem exbl_ {b : Bool} {P : Bool → Prop} (h : P b) : ∃ b', I.v (.bl b) = I.v (.bl b') ∧ P b' := ⟨b, rfl, h⟩
theorem exint_ {b : Int} {P : Int → Prop} (h : P b) : ∃ b', I.v (.int b) = I.v (.int b') ∧ P b' := ⟨b, rfl, h⟩
theorem exv_ {d : D} {P : D → Prop} (h : P d) : ∃ e, I.v d = I.v e ∧ P e := ⟨d, rfl, h⟩
theorem exlst_ {it : I} {xs : List D} {P : List D → Prop} (e : it.val = .lst xs) (h : P xs) : ∃ xs, it.val = .lst xs ∧ P xs := ⟨xs, e, h⟩
theorem extup_ {xs : List D} {P : List D → Prop} (h : P xs) : ∃ ys, I.v (.tup xs) = I.v (.tup ys) ∧ P ys := ⟨xs, rfl, h⟩
theorem ex1int_ {i : Int} {P : Int → Prop} (h : P i) : ∃ j, [I.v (.int i)] = [I.v (.int j)] ∧ P j := ⟨i, rfl, h⟩
theorem ex2int_ {i j : Int} {P : Int → Int → Prop} (h : P i j) : ∃ a b, [I.v (.int i), I.v (.int j)] = [I.v (.int a), I.v (.int b)] ∧ P a b := ⟨i, j, rfl, h⟩
theorem ex2_ {x y : I} {P : I → I → Prop} (h : P x y) : ∃ a b, [x, y] = [a, b] ∧ P a b := ⟨x, y, rfl, h⟩
theorem ex3_ {x y z : I} {P : I → I → I → Prop} (h : P x y z) : ∃ a b d, [x, y, z] = [a, b, d] ∧ P a b d := ⟨x, y, z, rfl, h⟩
theorem exty_ {T : String} {it : I} {P : Prop} (e : tyD T it.val) (h : P) : tyD T it.val ∧ P := ⟨e, h⟩
theorem true_ {P : Prop} (h : P) : (true = true) ∧ P := ⟨rfl, h⟩
theorem gunlE_ {m : Nat} {gs : TGs} {it : I} {xs : List D} (e : it.val = .lst xs) (hl : xs.length = m) (h : GGs c ρ n ds gs (xs.map I.v) QG) : GG c ρ n ds (gUnl K m gs) it QG := gunl_ e hl h
/-! ### comprehensions that change nothing else -/
theorem CpD.mapD {own : List Nat} {g : TG} {tt : TT} {te : TE} {Q : List D → QS} {xs : List D} (f : D → D) (hl : xs.length ≤ 100000)
    (hs : ∀ x ∈ xs, ∀ ys, GW c ρ n (.o (.lst ys) :: ds) own g (.v x) fun ρ1 n1 => GT c ρ1 n1 (.o (.lst ys) :: ds) tt fun b ρ2 n2 => b = true ∧ GE c ρ2 n2 (.o (.lst ys) :: ds) te fun it ρ3 n3 => it.val = f x ∧ HD.unset own (HD.frz1 ρ3 it) = ρ ∧ n3 = n)
    (hd : Q (xs.map f) ρ n) : CpD c ds own g tt te Q xs [] ρ n := by
  refine CpD.inv (fun i ys ρ' n' => ys = (xs.take i).map f ∧ ρ' = ρ ∧ n' = n) ⟨rfl, rfl, rfl⟩ (fun i x ys ρ' n' hx hi p => ?_) fun ys ρ' n' p => ?_
  · obtain ⟨rfl, rfl, rfl⟩ := p
    refine (hs x (List.mem_of_getElem? hx) _).mono fun ρ1 n1 q => q.mono fun b ρ2 n2 q2 => ?_
    obtain ⟨rfl, q2⟩ := q2
    rw [if_pos rfl]
    refine q2.mono fun it ρ3 n3 q3 => ⟨Nat.ble_eq_true_of_le (by rw [List.length_map, List.length_take]; omega), ?_, q3.2.1, q3.2.2⟩
    rw [q3.1, List.take_add_one, hx, List.map_append]; rfl
  · obtain ⟨rfl, rfl, rfl⟩ := p
    rw [List.take_length]; exact hd
theorem CpD.filD {own : List Nat} {g : TG} {tt : TT} {te : TE} {Q : List D → QS} {xs : List D} (p : D → Bool) (f : D → D) (hl : xs.length ≤ 100000)
    (hs : ∀ x ∈ xs, ∀ ys, GW c ρ n (.o (.lst ys) :: ds) own g (.v x) fun ρ1 n1 => GT c ρ1 n1 (.o (.lst ys) :: ds) tt fun b ρ2 n2 => b = p x ∧ if p x = true then GE c ρ2 n2 (.o (.lst ys) :: ds) te fun it ρ3 n3 => it.val = f x ∧ HD.unset own (HD.frz1 ρ3 it) = ρ ∧ n3 = n else HD.unset own ρ2 = ρ ∧ n2 = n)
    (hd : Q ((xs.filter p).map f) ρ n) : CpD c ds own g tt te Q xs [] ρ n := by
  refine CpD.inv (fun i ys ρ' n' => ys = ((xs.take i).filter p).map f ∧ ρ' = ρ ∧ n' = n) ⟨rfl, rfl, rfl⟩ (fun i x ys ρ' n' hx hi q => ?_) fun ys ρ' n' q => ?_
  · obtain ⟨rfl, rfl, rfl⟩ := q
    refine (hs x (List.mem_of_getElem? hx) _).mono fun ρ1 n1 q => q.mono fun b ρ2 n2 q2 => ?_
    obtain ⟨rfl, q2⟩ := q2
    cases hp : p x with
    | true =>
      rw [hp, if_pos rfl] at q2
      rw [if_pos rfl]
      refine q2.mono fun it ρ3 n3 q3 => ⟨Nat.ble_eq_true_of_le ?_, ?_, q3.2.1, q3.2.2⟩
      · rw [List.length_map]
        have h1 := List.length_filter_le p (xs.take i)
        rw [List.length_take] at h1
        omega
      · rw [q3.1, List.take_add_one, hx]
        simp [hp]
    | false =>
      rw [hp, if_neg Bool.false_ne_true] at q2
      rw [if_neg Bool.false_ne_true]
      refine ⟨?_, q2.1, q2.2⟩
      rw [List.take_add_one, hx]
      simp [hp]
  · obtain ⟨rfl, rfl, rfl⟩ := q
    rw [List.take_length] at *; exact hd
/-- over a list or a tuple -/
theorem iseqL_ {te : TE} {Q : List I → List D → QS} (h : GI c ρ n ds (iList K te) Q) : GI c ρ n ds (HC.iSeq K te) Q := fun σ H vs F s k => .inl (h σ H vs F s k)
theorem iseqT_ {te : TE} {Q : List I → List D → QS} (h : GI c ρ n ds (iTup K te) Q) : GI c ρ n ds (HC.iSeq K te) Q := fun σ H vs F s k => .inr (h σ H vs F s k)
end
/-! ### isinstance with a tuple of classes, laid or written -/
def rIsiTU (K : PySem.W.Frag) : List V → Hp → VK → Prop := fun xs H Q => rIsiT K xs H Q ∨ rIsiK K xs H Q
theorem call_isiTU {X : Cx} {K : PySem.W.Frag} (hK : X.K = K := by rfl) : CallR X (.builtin "isinstance") (rIsiTU K) := by cases hK; exact CallR.or call_isiT call_isiK
def clsD : List D → Option (List Value)
  | [] => some []
  | .ty n :: r => (clsD r).map (Value.type n :: ·)
  | .glo a :: r => (clsD r).map (Value.ref a :: ·)
  | _ => none
section
variable {K : PySem.W.Frag} {c : Wd K} {ρ : List S} {n : Nat} {ds : List I} {Q : QI} {g : Addr} {M : Addr → Prop} {H : Hp}
theorem RA.cls : ∀ {ws : List V} {cs : List D} {us : List Value}, RA K g M H ws cs → clsD cs = some us → Paired ClsV ws us
  | _, [], _, h, e => by cases h; cases e; exact .nil
  | _, d :: cs, us, .cons a b, e => by
    cases d with
    | ty n =>
      cases a
      cases z : clsD cs with
      | none => rw [clsD, z] at e; cases e
      | some vs => rw [clsD, z] at e; cases e; exact .cons (.ty n) (RA.cls b z)
    | glo x =>
      cases a
      cases z : clsD cs with
      | none => rw [clsD, z] at e; cases e
      | some vs => rw [clsD, z] at e; cases e; exact .cons (.own x) (RA.cls b z)
    | _ => cases e
theorem isiU {x : V} {t : Value} {b : Bool} {tp : V} {cs : List D} {us : List Value} {F : VK} (hx : TyX K H x t) (hy : R K g M H tp (.tup cs)) (e : clsD cs = some us) (hk : PySem.W.kitAny K t us = some b) (q : F (.bl b) H) : rIsiTU K [x, tp] H F := by
  cases hy with
  | @tup a ws _ ha ra =>
    have pc := ra.cls e
    rcases ha with ha | ha
    · exact .inl ⟨x, a, ws, t, us, b, rfl, ha.2, pc, hx, hk, q⟩
    · rcases ha with (ha | ⟨_, ha⟩) | ⟨⟨cl, dd, dt, sl⟩, its, m, h1, h2, h3, _, h5⟩
      · cases ha
      · cases ha
      · have hu := ClsV.all pc h5
        cases h2
        cases h3
        refine .inr ⟨x, a, dd, us, m, sl, t, b, rfl, ?_, hx, hk, q⟩
        rw [h1, ← hu]
theorem isiTB_ {it : I} {t : String} {b : Bool} {cs : List D} {us : List Value} (e : it.val.tn = some t) (ec : clsD cs = some us) (hk : PySem.W.kitAny K (.type t) us = some b) (h : Q (.v (.bl b)) ρ n) : GB c ρ n ds (rIsiTU K) [it, .v (.tup cs)] Q := fun σ H vs xs F hl ⟨L, B, s⟩ k => by
  match xs, hl with
  | [x, y], _ =>
  obtain ⟨L, B, s1⟩ := (St.rot (is := [.v (.tup cs)]) (ws := [y]) rfl ⟨L, B, s⟩ : St c ρ n (.v (.tup cs) :: it :: ds) σ H (y :: x :: vs))
  obtain ⟨B', lx, ly, s2, mv, hx, hy⟩ := s1.it2
  exact isiU (hx.tn s1.sl e) hy.r ec hk (k _ _ _ _ _ h ⟨L, B', s2.pushR (.bl _)⟩)
theorem isiTO_ {it : I} {C CP : Addr} {nm : Str} {fs : List (Str × D)} {b : Bool} {cs : List D} {us : List Value} (e : it.val = .ins C fs) (pc : HC.PC K CP C nm) (ec : clsD cs = some us) (hk : PySem.W.kitAny K (.ref C) us = some b) (h : Q (.v (.bl b)) ρ n) : GB c ρ n ds (rIsiTU K) [it, .v (.tup cs)] Q := fun σ H vs xs F hl ⟨L, B, s⟩ k => by
  match xs, hl with
  | [x, y], _ =>
  obtain ⟨L, B, s1⟩ := (St.rot (is := [.v (.tup cs)]) (ws := [y]) rfl ⟨L, B, s⟩ : St c ρ n (.v (.tup cs) :: it :: ds) σ H (y :: x :: vs))
  obtain ⟨B', lx, ly, s2, mv, hx, hy⟩ := s1.it2
  obtain ⟨a, dx, fv, rfl, ha, _⟩ := hx.ins s1.sl e
  exact isiU (pc.ty ha) hy.r ec hk (k _ _ _ _ _ h ⟨L, B', s2.pushR (.bl _)⟩)
end
/-! ### fixed values -/
mutual
def D.fix : D → D
  | .lst xs => .tup (D.fixs xs)
  | .tup xs => .tup (D.fixs xs)
  | d => d
def D.fixs : List D → List D
  | [] => []
  | x :: xs => D.fix x :: D.fixs xs
end
theorem D.fixs_map : ∀ xs : List D, D.fixs xs = xs.map D.fix
  | [] => rfl
  | x :: xs => by rw [D.fixs, List.map_cons, D.fixs_map xs]
/-- nested at most m deep, none too long, leaves of built-in types -/
def okF : Nat → D → Bool
  | 0, .lst _ => false
  | 0, .tup _ => false
  | m + 1, .lst xs => Nat.ble xs.length 100000 && xs.all (okF m)
  | m + 1, .tup xs => Nat.ble xs.length 100000 && xs.all (okF m)
  | _, d => d.tn.isSome
def isSq : D → Bool
  | .lst _ => true
  | .tup _ => true
  | _ => false
theorem okF_tn {m : Nat} {d : D} (h : okF m d = true) : ∃ t, d.tn = some t := by
  cases m <;> cases d <;> first | exact ⟨_, rfl⟩ | (simp [okF, D.tn] at h)
def spd_fixed (m : Nat) (ds : List D) (n : Nat) (Q : I → Nat → Prop) (_ : XD) : Prop := ∃ d, ds = [d] ∧ okF m d = true ∧ Q (.v d.fix) n
def spd_fixedB : Nat → SpD
  | 0 => fun _ _ _ _ => False
  | m + 1 => spd_fixed m
theorem lift_false {K : PySem.W.Frag} : lift K (spd_fixedB 0) = fun _ _ _ _ => False := by
  funext vs H Q E
  exact propext ⟨fun ⟨_, _, _, _, _, _, h⟩ => h, False.elim⟩
theorem sq_kit {K : PySem.W.Frag} {d : D} {t : String} (e : d.tn = some t) : PySem.W.kitAny K (.type t) [.type "list", .type "tuple"] = some (isSq d) := by
  cases d <;> first | (cases e; done) | skip
  · cases e; exact HC.kitAny_two (a := false) (b := false) (kit_ty (by decide +kernel)) (kit_ty (by decide +kernel))
  · cases e; exact HC.kitAny_two (a := false) (b := false) (kit_ty (by decide +kernel)) (kit_ty (by decide +kernel))
  · cases e; exact HC.kitAny_two (a := false) (b := false) (kit_ty (by decide +kernel)) (kit_ty (by decide +kernel))
  · cases e; exact HC.kitAny_two (a := false) (b := false) (kit_ty (by decide +kernel)) (kit_ty (by decide +kernel))
  · cases e; exact HC.kitAny_two (a := false) (b := true) (kit_ty (by decide +kernel)) (kit_ty (by decide +kernel))
  · cases e; exact HC.kitAny_two (a := true) (b := false) (kit_ty (by decide +kernel)) (kit_ty (by decide +kernel))
/-! ### the reel -/
def spV_hat (K : PySem.W.Frag) : Sp := fun vs H Q _ => ∃ (a : Addr) (ns : List Int), vs = [.ref a] ∧ SqL K H a (ns.map V.int) ∧ ns.length ≤ 63 ∧ ∀ p c ms H', Same H H' → H p = none → Hat H' p c ms 0 → Q (.ref p) H'
def spV_lot : Sp := fun vs H Q _ => ∃ (a : Addr) (m : Int) (c : Addr) (ns : List Int) (n : Nat), vs = [.ref a, .int m] ∧ Hat H a c ns n ∧ n ≤ 100000 ∧ 0 < m ∧ m < 1073741824 ∧ ∀ d H', 0 ≤ d → d < m → Kept a H H' → Hat H' a c ns (n + 1) → Q (.int d) H'
def spd_lot (ds : List D) (n : Nat) (Q : I → Nat → Prop) (_ : XD) : Prop := ∃ m : Int, ds = [.hat, .int m] ∧ n ≤ 100000 ∧ (0 < m ∧ m < 1073741824) ∧ ∀ d, 0 ≤ d → d < m → Q (.v (.int d)) (n + 1)
theorem lot_bridge {K : PySem.W.Frag} : ∀ vs H Q E, lift K spd_lot vs H Q E → spV_lot vs H Q E := by
  rintro vs H Q E ⟨c, n, ds, Qd, Ed, k, m, rfl, hn, hm, q⟩
  have ra := k.ra
  cases ra with
  | cons a b =>
  cases b with
  | cons b d =>
  cases a; cases b; cases d
  exact ⟨c.g, m, c.k, c.ns, n, rfl, k.hat, hn, hm.1, hm.2, fun d H' h0 h1 kp ht => k.q _ _ _ _ (q d h0 h1) kp ht (.int d)⟩
theorem use_lot {m : Int} {n : Nat} {Q : I → Nat → Prop} {E : XD} (hn : n ≤ 100000) (hm : 0 < m ∧ m < 1073741824) (q : ∀ d, 0 ≤ d → d < m → Q (.v (.int d)) (n + 1)) : spd_lot [.hat, .int m] n Q E := ⟨m, rfl, hn, hm, q⟩
def spd_one (ds : List D) (n : Nat) (Q : I → Nat → Prop) (_ : XD) : Prop := ∃ d xs, ds = [.hat, d] ∧ d.seq = some xs ∧ n ≤ 100000 ∧ (0 < xs.length ∧ xs.length ≤ 1000) ∧ ∀ v ∈ xs, Q (.v v) (n + 1)
theorem use_one {d : D} {xs : List D} {n : Nat} {Q : I → Nat → Prop} {E : XD} (e : d.seq = some xs) (hn : n ≤ 100000) (hl : 0 < xs.length ∧ xs.length ≤ 1000) (q : ∀ v ∈ xs, Q (.v v) (n + 1)) : spd_one [.hat, d] n Q E := ⟨d, xs, rfl, e, hn, hl, q⟩
/-- behind the law's first statement -/
theorem begin {K : PySem.W.Frag} {t : TS} {E : Ends} {D : Es} {x0 : Option V} {p k : Addr} {ms : List Int} {H : Hp} {rest : L2.St} {m : Nat} (hh : Hat H p k ms 0) (hl : rest.length = m) (h : GS (K := K) ⟨p, k, ms, fun a => a = p ∨ a = k, H⟩ (.un :: .v .hat :: List.replicate m .un) 0 [] t D)
    (he : ∀ v H, (∃ it n, D.rt it n ∧ ∃ c : Wd K, Rt c H v it) → E.rt v H) (h1 : ∀ ρ n, ¬ D.nx ρ n) (h2 : ∀ ρ n, ¬ D.bk ρ n) (h3 : ∀ ρ n, ¬ D.ct ρ n) : t E (x0 :: some (.ref p) :: rest) H := by
  have un : ∀ (m : Nat) (rest : L2.St), rest.length = m → SRs K p (Mo (⟨p, k, ms, fun a => a = p ∨ a = k, H⟩ : Wd K) ([] ++ [])) H (List.replicate m S.un) [] rest := fun m => by
    induction m with
    | zero => intro rest hl; rw [List.length_eq_zero_iff.mp hl]; exact .nil
    | succ m ih => intro rest hl; cases rest with
      | nil => cases hl
      | cons a r => exact .cons (l := []) (.un _) (ih r (by simpa using hl))
  refine h _ H [] E ⟨[], [], .cons (l := []) (.un _) (.cons (l := []) (.v .hat) (un m rest hl)), .nil, List.nodup_nil, (fun a h => by cases h), Kept.refl _ _, hh, .inl rfl, .inr rfl, fun a ha => ?_⟩ ⟨fun ρ n _ _ q => absurd q (h1 ρ n), fun it n v H' q _ _ r => he v H' ⟨it, n, q, _, r⟩, fun ρ n _ _ q => absurd q (h2 ρ n), fun ρ n _ _ q => absurd q (h3 ρ n)⟩
  rcases ha with ha | ha
  · rw [ha]; exact hh.at
  · rw [ha]; exact ⟨_, hh.cs⟩
/-! ### papers -/
def spi_PaperB (m : Nat) (ds : List D) (n : Nat) (Q : List (Str × D) → Nat → Prop) (_ : XD) : Prop := ∃ w xs, ds = [.str w, .tup xs] ∧ okF m (.tup xs) = true ∧ Q [("word", .str w), ("parts", .tup (D.fixs xs))] n
def spi_Paper (m : Nat) (ds : List D) (n : Nat) (Q : List (Str × D) → Nat → Prop) (_ : XD) : Prop := ∃ w xs, ds = .str w :: xs ∧ okF m (.tup xs) = true ∧ Q [("word", .str w), ("parts", .tup (D.fixs xs))] n
theorem starI {K : PySem.W.Frag} {C : Addr} {m : Nat} : ∀ vs H Q E, liftI K C (spi_Paper m) vs H Q E → HC.starS ["self", "word"] (liftI K C (spi_PaperB m)) vs H Q E := by
  rintro vs H Q E ⟨c, n, x, dx, ws, ds, Qd, Ed, rfl, k, w, xs, rfl, ok, q⟩
  have ra := k.ra
  cases ra with
  | @cons v rest _ _ a b =>
  cases a
  refine ⟨[.ref x, .str w], rest, rfl, rfl, ?_, fun p hp => ?_⟩
  · rw [b.len]
    cases m with
    | zero => simp [okF] at ok
    | succ m => rw [okF, Bool.and_eq_true] at ok; exact Nat.le_trans (Nat.le_of_ble_eq_true ok.1) (by decide)
  have sm : Same H (upd H p (.tup rest)) := HX.same_new hp
  have npx : p ≠ x := fun e => by rw [e, k.hx] at hp; cases hp
  have npm : ¬ c.M0 p := fun z => by obtain ⟨o, ho⟩ := k.md p z; rw [hp] at ho; cases ho
  refine ⟨⟨c.g, c.k, c.ns, c.M0, del (upd H p (.tup rest)) x⟩, n, x, dx, [.str w, .ref p], _, Qd, Ed, rfl, ⟨rfl, sm _ _ k.hx, k.nx, k.hat.same sm, k.mg, k.ml, fun a ha => ?_, .cons (.str w) (.cons (.tup (.inl ⟨fun z => z.elim npm npx, upd_same⟩) (b.mv (mv_same sm))) .nil), fun fs m H' q2 k2 h2 r2 => k.q fs m H' q2 (fun b o nb hb => k2 b o nb ?_) h2 r2⟩, w, xs, rfl, ok, q⟩
  · obtain ⟨o, ho⟩ := k.md a ha
    exact ⟨o, sm a o ho⟩
  · rw [k.h0] at hb
    unfold del at hb
    show (if b = x then none else (upd H p (.tup rest)) b) = some o
    split at hb
    · cases hb
    · rename_i nb2
      rw [if_neg nb2]
      exact sm b o hb
theorem fnr_imp {P : Program} {w : World} {K : PySem.W.Frag} {mg : Str → Option Value} {base : Heap} {CX : CXT} {k : Nat} {f : Addr} {sp sp' : Sp} (F : FnR P w K mg base CX k f sp) (h : ∀ vs H Q E, sp' vs H Q E → sp vs H Q E) : FnR P w K mg base CX k f sp' :=
  fun A outer s H us vs Q E hr e r q => F A outer s H us vs Q E hr e r (h _ _ _ _ q)
theorem enterJ {K : PySem.W.Frag} {c : Wd K} {n : Nat} {H : Hp} {x C dx : Addr} {ws : List V} {es : List D} {Q : VK} {E : XK} {Qd : List (Str × D) → Nat → Prop} {Ed : XD} {σ : L2.St} (k : InitOk c H x C dx n ws es Q E Qd Ed) {m : Nat} (eσ : σ = (V.ref x :: ws).map some ++ List.replicate m none) :
    ∃ L, StX c L [] (.me x (.ins C []) :: (es.map S.v ++ List.replicate m S.un)) n [] σ H [] := enterI (R := fun σ H => ∃ L, StX c L [] (.me x (.ins C []) :: (es.map S.v ++ List.replicate m S.un)) n [] σ H []) k eσ fun L s => ⟨L, s⟩
/-- a paper of class C: its word, its parts -/
structure Pp (K : PySem.W.Frag) (CP C : Addr) (nm : Str) (fs : List (Str × D)) (u : Str) (d : D) : Prop where
  pc : HC.PC K CP C nm
  wd : fs.lookup ("word" : Str) = some (.str u)
  pt : fs.lookup ("parts" : Str) = some d
section
variable {K : PySem.W.Frag} {c : Wd K} {ρ : List S} {n : Nat} {ds : List I} {Q : QI}
theorem exfld_ {it : I} {C : Addr} {fs : List (Str × D)} {f : Str} {d : D} {P : D → Prop} (e : it.val = .ins C fs) (h1 : Cls K C) (h2 : NoAttr K C f) (h3 : fs.lookup f = some d) (q : P d) : ∃ C fs d, it.val = .ins C fs ∧ Cls K C ∧ NoAttr K C f ∧ fs.lookup f = some d ∧ P d := ⟨C, fs, d, e, h1, h2, h3, q⟩
theorem excls_ {it : I} {C : Addr} {fs : List (Str × D)} {P : Addr → Prop} (e : it.val = .ins C fs) (h1 : HP.HasCls K C) (q : P C) : ∃ C fs, it.val = .ins C fs ∧ HP.HasCls K C ∧ P C := ⟨C, fs, e, h1, q⟩
theorem exsetM_ {io it : I} {ρ2 : List S} {i : Nat} {d0 : D} {x C : Addr} {fs : List (Str × D)} {f : Str} {nx : QS} {n2 : Nat} (e1 : io = .b i d0) (e2 : clean ds = true) (e3 : (frz1 ρ2 it)[i]? = some (.me x (.ins C fs))) (h1 : Cls K C) (h2 : NoAttr K C f) (e4 : Nat.ble fs.length 900 = true) (q : nx ((frz1 ρ2 it).set i (.me x (.ins C (putD f it.val fs)))) n2) : SM K ds f it io ρ2 n2 nx := ⟨i, d0, x, C, fs, e1, e2, e3, h1, h2, e4, q⟩
end
section
variable {K : PySem.W.Frag} {c : Wd K} {ρ : List S} {n : Nat} {ds : List I}
theorem while_ {cc : TT} {tb : TS} {nx bk ct : QS} {rt : I → Nat → Prop} (P : Nat → QS) (m : Nat) (h0 : P m ρ n)
    (hs : ∀ m ρ n, P m ρ n → GT c ρ n ds cc fun b ρ1 n1 => if b = true then GS c ρ1 n1 ds tb ⟨fun ρ n => ∃ m', m' < m ∧ P m' ρ n, rt, nx, fun ρ n => ∃ m', m' < m ∧ P m' ρ n⟩ else nx ρ1 n1) : GS c ρ n ds (tWhile cc tb) ⟨nx, rt, bk, ct⟩ := fun σ H vs E s k => by
  refine ⟨fun m σ H => ∃ ρ n, P m ρ n ∧ St c ρ n ds σ H vs, ⟨m, ρ, n, h0, s⟩, ?_⟩
  rintro m σ H ⟨ρ, n, p, s⟩
  refine hs m ρ n p σ H vs _ s fun b ρ1 n1 H1 q s1 => ?_
  cases b with
  | true =>
    rw [if_pos rfl] at q ⊢
    refine ⟨fun σ H => ∃ m', m' < m ∧ ∃ ρ n, P m' ρ n ∧ St c ρ n ds σ H vs, fun σ' H' ⟨m', hm, z⟩ => ⟨m', hm, z⟩, ?_⟩
    exact q σ H1 vs _ s1 ⟨fun ρ n σ H ⟨m', hm, z⟩ s => ⟨m', hm, ρ, n, z, s⟩, k.rt, fun ρ n σ H q s => k.nx _ _ _ _ q s, fun ρ n σ H ⟨m', hm, z⟩ s => ⟨m', hm, ρ, n, z, s⟩⟩
  | false =>
    rw [if_neg Bool.false_ne_true] at q ⊢
    exact k.nx _ _ _ _ q s1
end
/-! ### isinstance with one built-in type -/
def isIntB : D → Bool
  | .int _ => true
  | .bl _ => true
  | _ => false
theorem kitInt {K : PySem.W.Frag} {d : D} {t : String} (e : d.tn = some t) : PySem.W.kitOne K (.type t) (.type "int") = some (isIntB d) := by
  cases d <;> first | (cases e; done) | skip
  all_goals (cases e; dsimp only [isIntB]; exact kit_ty (by decide +kernel))
theorem isiInt_ {K : PySem.W.Frag} {c : Wd K} {ρ : List S} {n : Nat} {ds : List I} {Q : QI} {it : I} (e : it.val.tn.isSome = true) (h : Q (.v (.bl (isIntB it.val))) ρ n) : GB c ρ n ds (rIsi K) [it, .v (.ty "int")] Q := by
  cases z : it.val.tn with
  | none => rw [z] at e; cases e
  | some t => exact isiB_ z (kitInt z) h
def isBoolB : D → Bool
  | .bl _ => true
  | _ => false
theorem kitBool {K : PySem.W.Frag} {d : D} {t : String} (e : d.tn = some t) : PySem.W.kitOne K (.type t) (.type "bool") = some (isBoolB d) := by
  cases d <;> first | (cases e; done) | skip
  all_goals (cases e; dsimp only [isBoolB]; exact kit_ty (by decide +kernel))
theorem isiBool_ {K : PySem.W.Frag} {c : Wd K} {ρ : List S} {n : Nat} {ds : List I} {Q : QI} {it : I} (e : it.val.tn.isSome = true) (h : Q (.v (.bl (isBoolB it.val))) ρ n) : GB c ρ n ds (rIsi K) [it, .v (.ty "bool")] Q := by
  cases z : it.val.tn with
  | none => rw [z] at e; cases e
  | some t => exact isiB_ z (kitBool z) h
def isStrB : D → Bool
  | .str _ => true
  | _ => false
theorem kitStr {K : PySem.W.Frag} {d : D} {t : String} (e : d.tn = some t) : PySem.W.kitOne K (.type t) (.type "str") = some (isStrB d) := by
  cases d <;> first | (cases e; done) | skip
  all_goals (cases e; dsimp only [isStrB]; exact kit_ty (by decide +kernel))
theorem isiStr_ {K : PySem.W.Frag} {c : Wd K} {ρ : List S} {n : Nat} {ds : List I} {Q : QI} {it : I} (e : it.val.tn.isSome = true) (h : Q (.v (.bl (isStrB it.val))) ρ n) : GB c ρ n ds (rIsi K) [it, .v (.ty "str")] Q := by
  cases z : it.val.tn with
  | none => rw [z] at e; cases e
  | some t => exact isiB_ z (kitStr z) h
def isListB : D → Bool
  | .lst _ => true
  | _ => false
theorem kitList {K : PySem.W.Frag} {d : D} {t : String} (e : d.tn = some t) : PySem.W.kitOne K (.type t) (.type "list") = some (isListB d) := by
  cases d <;> first | (cases e; done) | skip
  all_goals (cases e; dsimp only [isListB]; exact kit_ty (by decide +kernel))
theorem isiList_ {K : PySem.W.Frag} {c : Wd K} {ρ : List S} {n : Nat} {ds : List I} {Q : QI} {it : I} (e : it.val.tn.isSome = true) (h : Q (.v (.bl (isListB it.val))) ρ n) : GB c ρ n ds (rIsi K) [it, .v (.ty "list")] Q := by
  cases z : it.val.tn with
  | none => rw [z] at e; cases e
  | some t => exact isiB_ z (kitList z) h
def isTupB : D → Bool
  | .tup _ => true
  | _ => false
theorem kitTup {K : PySem.W.Frag} {d : D} {t : String} (e : d.tn = some t) : PySem.W.kitOne K (.type t) (.type "tuple") = some (isTupB d) := by
  cases d <;> first | (cases e; done) | skip
  all_goals (cases e; dsimp only [isTupB]; exact kit_ty (by decide +kernel))
theorem isiTup_ {K : PySem.W.Frag} {c : Wd K} {ρ : List S} {n : Nat} {ds : List I} {Q : QI} {it : I} (e : it.val.tn.isSome = true) (h : Q (.v (.bl (isTupB it.val))) ρ n) : GB c ρ n ds (rIsi K) [it, .v (.ty "tuple")] Q := by
  cases z : it.val.tn with
  | none => rw [z] at e; cases e
  | some t => exact isiB_ z (kitTup z) h
theorem rngB_ {i : Int} {P : Prop} (e : -(2 ^ 62) ≤ i ∧ i < 2 ^ 62) (h : P) : (-(2 ^ 62) ≤ i ∧ i < 2 ^ 62) ∧ P := ⟨e, h⟩
theorem rngC_ {i j : Int} {P : Prop} (e : -(2 ^ 62) ≤ i ∧ i < 2 ^ 62 ∧ -(2 ^ 62) ≤ j ∧ j < 2 ^ 62) (h : P) : (-(2 ^ 62) ≤ i ∧ i < 2 ^ 62 ∧ -(2 ^ 62) ≤ j ∧ j < 2 ^ 62) ∧ P := ⟨e, h⟩
theorem cle_ {own : List Nat} {ds : List I} {P : Prop} (e : cleanO own ds = true) (h : P) : cleanO own ds = true ∧ P := ⟨e, h⟩
section
variable {K : PySem.W.Frag} {c : Wd K} {ρ : List S} {n : Nat} {ds : List I} {Q : QI}
/-- i if b else j: one way on, with a letter -/
theorem joinI_ {b : Bool} {i j : Int} (h : ∀ e : Int, (b = true ∧ e = i ∨ b = false ∧ e = j) → Q (.v (.int e)) ρ n) : if b = true then GE c ρ n ds (tC (.int i)) Q else GE c ρ n ds (tC (.int j)) Q := by
  cases b with
  | true => exact cint_ (h i (.inl ⟨rfl, rfl⟩))
  | false => exact cint_ (h j (.inr ⟨rfl, rfl⟩))
theorem joinN_ {b : Bool} {i j : Int} (h : ∀ e : Int, (b = true ∧ e = i ∨ b = false ∧ e = -j) → Q (.v (.int e)) ρ n) : if b = true then GE c ρ n ds (tC (.int i)) Q else GE c ρ n ds (tUn (rU fun i => .int (-i)) (tC (.int j))) Q := by
  cases b with
  | true => exact cint_ (h i (.inl ⟨rfl, rfl⟩))
  | false => exact un_ (cint_ (u_ (h (-j) (.inr ⟨rfl, rfl⟩))))
/-- two ways that come to one -/
theorem joinE_ {b : Bool} {t u : TE} (Mid : QI) (h1 : b = true → GE c ρ n ds t Mid) (h2 : b = false → GE c ρ n ds u Mid) (h : ∀ it ρ n, Mid it ρ n → Q it ρ n) : if b = true then GE c ρ n ds t Q else GE c ρ n ds u Q := by
  cases b with
  | true => exact (h1 rfl).mono h
  | false => exact (h2 rfl).mono h
end
theorem atD_some {xs : List D} {z : Int} (h0 : 0 ≤ z) (h1 : z < xs.length) : ∃ v, atI xs z = some v ∧ v ∈ xs := by
  obtain ⟨k, rfl⟩ := Int.eq_ofNat_of_zero_le h0
  have hk : k < xs.length := by omega
  exact ⟨xs[k], atI_nat (List.getElem?_eq_getElem hk), List.getElem_mem hk⟩
theorem exlstD_ {ys : List D} {P : List D → Prop} (h : P ys) : ∃ xs, D.lst ys = D.lst xs ∧ P xs := ⟨ys, rfl, h⟩
theorem rngT1 {lo : Int} : rngD lo (Int.toNat 1) = [.int (lo + 0)] := rfl
theorem rngT2 {lo : Int} : rngD lo (Int.toNat 2) = [.int (lo + 0), .int (lo + 1)] := rfl
theorem rngT3 {lo : Int} : rngD lo (Int.toNat 3) = [.int (lo + 0), .int (lo + 1), .int (lo + 2)] := rfl
theorem rngT4 {lo : Int} : rngD lo (Int.toNat 4) = [.int (lo + 0), .int (lo + 1), .int (lo + 2), .int (lo + 3)] := rfl
theorem rngT5 {lo : Int} : rngD lo (Int.toNat 5) = [.int (lo + 0), .int (lo + 1), .int (lo + 2), .int (lo + 3), .int (lo + 4)] := rfl
theorem rngT6 {lo : Int} : rngD lo (Int.toNat 6) = [.int (lo + 0), .int (lo + 1), .int (lo + 2), .int (lo + 3), .int (lo + 4), .int (lo + 5)] := rfl
/-- a new thing may be handed back as one that no one changes -/
def WQ (Q : I → Nat → Prop) : I → Nat → Prop := fun it n => Q it n ∨ ∃ d, it = .o d ∧ Q (.v d) n
theorem wl_ {Q : I → Nat → Prop} {it : I} {n : Nat} (h : Q it n) : WQ Q it n := .inl h
theorem wv_ {Q : I → Nat → Prop} {d : D} {n : Nat} (h : Q (.v d) n) : WQ Q (.o d) n := .inr ⟨d, rfl, h⟩
theorem CallOk.w {K : PySem.W.Frag} {c : Wd K} {H : Hp} {n : Nat} {vs : List V} {ds : List D} {Q : VK} {E : XK} {Qd : I → Nat → Prop} {Ed : XD} (k : CallOk c H n vs ds Q E Qd Ed) : CallOk c H n vs ds Q E (WQ Qd) Ed :=
  ⟨k.h0, k.hat, k.mg, k.ml, k.md, k.ra, fun it n' v H' q k1 k2 r => by
    rcases q with q | ⟨d, rfl, q⟩
    · exact k.q _ _ _ _ q k1 k2 r
    · obtain ⟨p, rfl, hp, np, r⟩ := r
      exact k.q _ _ _ _ q k1 k2 (show R K c.g c.M0 H' (.ref p) d from (r.mv (mv_less fun a ha => .inl ha) fun _ h => h).r np), k.e⟩
section
variable {K : PySem.W.Frag} {c : Wd K} {ρ : List S} {n : Nat} {ds : List I}
/-- a, b, .. = x, y, ..: the tuple is laid and read at once -/
theorem asgT_ {ta : TA} {gs : TGs} {m : Nat} {nx bk ct : QS} {rt : I → Nat → Prop} (h : GA c ρ n ds ta fun its ρ' n' => Nat.ble its.length 1000 = true ∧ its.length = m ∧ GGs c ρ' n' ds gs its nx) : GS c ρ n ds (tAsg (tTup ta) (gTup K m gs)) ⟨nx, rt, bk, ct⟩ := fun σ H vs E s k =>
  h σ H vs _ s fun its ρ' n' xs H' ⟨hb, hm, q⟩ hl s' => by
    refine ⟨Nat.le_trans (by rw [hl]; exact Nat.le_of_ble_eq_true hb) (by decide), fun p hp => ⟨p, xs, rfl, SqT.of upd_same, by rw [hl]; exact hm, ?_⟩⟩
    exact q σ _ vs xs E.nx hl (s'.same (HX.same_new hp)) fun ρ2 n2 σ2 H2 q2 s2 => k.nx _ _ _ _ q2 s2
theorem leneq_ {its : List I} {b : Nat} {P : Prop} (e : its.length = b) (h : P) : its.length = b ∧ P := ⟨e, h⟩
end
section
variable {X : Cx} {K : PySem.W.Frag} {T id : String} {name : Str} {r : V → List V → Hp → VK → Prop} {o e : Expr} {es : List Expr} {to : TE} {t : TA} {apos cpos : Pos}
theorem pe_bm0K (pa : PlainAttrs T) (slot : Slot T name id) (hty : typeOf (.builtin id) = pure (.type "method_descriptor")) (hm : MtR X id r) (ho : PE X o to)
    (hbase : attributeBase o name X.env (eval o X.env) = eval o X.env := by rfl) (hline : (apos.endLine == cpos.line) = true := by rfl) (hK : X.K = K := by rfl) : PE X (.Call (.Attribute o name apos) [] [] cpos) (tBM0 K T r to) := by
  cases hK; exact pe_bm0 pa slot hty hm ho hbase hline
theorem pe_bmK (pa : PlainAttrs T) (slot : Slot T name id) (hty : typeOf (.builtin id) = pure (.type "method_descriptor")) (hm : MtR X id r) (ho : PE X o to) (ha : PA X (e :: es) t)
    (hbase : attributeBase o name X.env (eval o X.env) = eval o X.env := by rfl)
    (hfew : ((backTo cpos (starEach (e :: es) X.env)).all (fun x => !x.1) && (backToKw cpos (keywordEach [] X.env)).all (fun x => x.1.isSome)
      && decide ((e :: es).length + ([] : List Keyword).length + (if ([] : List Keyword).isEmpty then 0 else 1) < 30)) = true := by rfl)
    (hline : (apos.endLine == cpos.line) = true := by rfl) (hs : starEach (e :: es) X.env = (false, eval e X.env) :: starEach es X.env := by rfl) (hplain : (backTo cpos (starEach es X.env)).any (·.1) = false := by rfl) (hK : X.K = K := by rfl) :
    PE X (.Call (.Attribute o name apos) (e :: es) [] cpos) (tBM K T r to t) := by
  cases hK; exact pe_bm pa slot hty hm ho ha hbase hfew hline hs hplain
theorem mt_lcountK (hK : X.K = K := by rfl) : MtR X "list.count" (rCntI K) := by cases hK; exact mt_lcount
end
end HD
/-! further steps on data -/
namespace HD
open PySem PySem.Spec PyProof.Rows L2 HX
/-- is, is not between truths -/
def rIsB : R2 := fun x y H Q => ∃ a b, x = .bl a ∧ y = .bl b ∧ Q (.bl (a == b)) H
def rNotB : R2 := fun x y H Q => ∃ a b, x = .bl a ∧ y = .bl b ∧ Q (.bl (!(a == b))) H
theorem op_isU {X : Cx} : OpR X (compareOp .Is) rIsB := by
  intro pins s σ H x y v u Q I rx ry h
  obtain ⟨a, b, rfl, rfl, q⟩ := h
  cases rx
  cases ry
  exact is_bool (fin_bl I q rfl)
theorem op_notU {X : Cx} : OpR X (compareOp .IsNot) rNotB := by
  intro pins s σ H x y v u Q I rx ry h
  obtain ⟨a, b, rfl, rfl, q⟩ := h
  cases rx
  cases ry
  exact isnot_bool (fin_bl I q rfl)
section
variable {K : PySem.W.Frag} {c : Wd K} {ρ : List S} {n : Nat} {ds : List I} {Q : QI} {QB : Bool → QS}
theorem isB_ {a b : Bool} (h : Q (.v (.bl (a == b))) ρ n) : GO c ρ n ds rIsB (.v (.bl a)) (.v (.bl b)) Q := fun σ H vs x y F s k => by
  obtain rfl := R.eBl s.two.1; obtain rfl := R.eBl s.two.2
  exact ⟨a, b, rfl, rfl, k _ _ _ _ _ h (s.pop.pop.pushS rfl)⟩
theorem notB_ {a b : Bool} (h : Q (.v (.bl (!(a == b)))) ρ n) : GO c ρ n ds rNotB (.v (.bl a)) (.v (.bl b)) Q := fun σ H vs x y F s k => by
  obtain rfl := R.eBl s.two.1; obtain rfl := R.eBl s.two.2
  exact ⟨a, b, rfl, rfl, k _ _ _ _ _ h (s.pop.pop.pushS rfl)⟩
/-- the truth of a paper, by its own __bool__ -/
theorem truP_ {ta : TE} {f1 f2 : Addr} (h : GE c ρ n ds ta fun it ρ' n' => ∃ C fs b, it.val = .ins C fs ∧ ((HB.BoolCls K C f1 ∧ b = true) ∨ (HB.BoolCls K C f2 ∧ b = false)) ∧ QB b ρ' n') : GT c ρ n ds (fun σ H Q => ta σ H fun x H' => HB.rTruB K f1 true x H' Q ∨ HB.rTruB K f2 false x H' Q) QB := fun σ H vs F s k => by
  refine tru_ (r := fun x H Q => HB.rTruB K f1 true x H Q ∨ HB.rTruB K f2 false x H Q) ?_ σ H vs F s k
  refine h.mono fun it ρ n ⟨C, fs, b, e, hb, q⟩ => ⟨C, fs, b, e, fun a dx fv H F ha hF => ?_, q⟩
  rcases hb with ⟨hb, rfl⟩ | ⟨hb, rfl⟩
  · exact .inl ⟨a, C, dx, fv, rfl, ha, hb, hF⟩
  · exact .inr ⟨a, C, dx, fv, rfl, ha, hb, hF⟩
/-! lists of ints -/
theorem pys_ints : ∀ xs : List Int, D.pys (xs.map D.int) = xs.map PyData.int
  | [] => rfl
  | x :: xs => by rw [List.map_cons, D.pys, pys_ints xs, D.py]; rfl
theorem dats_ints : ∀ xs : List Int, D.dats (xs.map D.int) = true
  | [] => rfl
  | x :: xs => by rw [List.map_cons, D.dats, dats_ints xs, D.dat]; rfl
end
end HD
/-! bool(o), o an instance with an own __bool__ -/
namespace HN
open PySem PySem.Spec PyProof.Rows L2 HX
theorem bool_meetsIn {prog : Program} {w : World} (x : Value) : MeetsIn prog w (Builtin.«bool.__new__» ⟨[.type "bool", x], []⟩) (fun A R s => wpAny (model prog w) A.in1 (truthy x) (fun b s' => R (.ok (.ret (.bool b))) s') (fun e s' => R (.error e) s') s) :=
  .of_wp fun A R s h => by
    have hsub := F.conv_sub_bool
    obtain ⟨hp, g, d, tk, os⟩ := s
    repeat (any_goals (first | assumption | (refine wpAny_mono h (fun b s' q => ?_) (fun _ _ q => q)) | wp_step))
    all_goals first | exact ⟨_, rfl, q⟩ | skip
section
variable {X : Cx} {K : PySem.W.Frag} {n : Nat} {f : Addr} {fd : FuncData} {ps : List Str} {b : Bool}
def rBoolB (K : PySem.W.Frag) (f : Addr) (b : Bool) : List V → Hp → VK → Prop := fun xs H Q => ∃ a C dx fs, xs = [.ref a] ∧ H a = some (.ins C dx fs) ∧ HB.BoolCls K C f ∧ Q (.bl b) H
theorem call_boolO (F : FnOk X.prog X.w X.K X.mg X.base CX0 n f fd ps (HB.spB b)) (hb : Binds X.K fd ps []) (hr : Room (n + 2) X.A) (hK : X.K = K := by rfl) : CallR X (.type "bool") (rBoolB K f b) := by
  cases hK
  intro pins s σ H xs us Q I rx h
  obtain ⟨a, C, dx, fs, rfl, ha, k, q⟩ := h
  obtain rfl := Vals.ref1 rx
  refine callType_newIn PySem.F.called_bool PySem.F.newNe_bool (PySem.F.typeCall_bool_1 _) (PySem.F.newCall_bool_1 _) (fun obj => PySem.F.args_object_init_2 obj _) PySem.F.entry_bool_new (bool_meetsIn _) ?_
  obtain ⟨mA, J, _⟩ := ins_get I.hok ha
  obtain ⟨od, J, _⟩ := J.look
  obtain ⟨m, hF⟩ := I.fr
  refine PySem.W.truthy_K hF I.ok.mod.kin J k.at_ k.fn ?_
  have hl : 1 = ps.length := F.len [.ref a] H (fun _ _ => True) E0 ⟨a, rfl, True.intro⟩
  have r2 : Vals [V.ref a] [Value.ref a] := .cons rfl .nil
  refine wpAny_call (codeAny_mono (F.run X.A.in1.in1 X.stack s H ⟨[.ref a], []⟩ [.ref a] [.ref a] (fun v H' => v = .bl b ∧ Q (.bl b) H') E0 hr.in1.in1 I.env0.in1.in1 (by
    have := hb s [.ref a] I.kIn (by simpa using hl)
    simpa using this) r2 ⟨a, rfl, rfl, q⟩) fun r s' hq => ?_)
  cases r with
  | error e => exact hq.elim
  | ok fl =>
    cases fl with
    | ret w =>
      obtain ⟨v, H', I', rv, ev, qq⟩ := I.after hq
      subst ev
      obtain rfl : w = Value.bool b := rv
      exact ⟨rfl, .bl b, H', I', rfl, qq⟩
    | next => exact hq.elim
    | brk => exact hq.elim
    | cont => exact hq.elim
end
section
open HD
variable {K : PySem.W.Frag} {c : Wd K} {ρ : List S} {n : Nat} {ds : List I} {Q : QI}
/-- a test that comes out one way, whatever happens within -/
theorem testB_ {QB : Bool → QS} {t : TT} (b : Bool) (ρ0 : List S) (n0 : Nat) (h : GT c ρ n ds t fun b' ρ' n' => b' = b ∧ ρ' = ρ0 ∧ n' = n0) (h2 : QB b ρ0 n0) : GT c ρ n ds t QB := h.mono fun b' ρ' n' ⟨e1, e2, e3⟩ => by subst e1 e2 e3; exact h2
theorem testS_ {QB : Bool → QS} {t : TT} (b : Bool) (h : GT c ρ n ds t fun b' ρ' n' => b' = b ∧ ρ' = ρ ∧ n' = n) (h2 : QB b ρ n) : GT c ρ n ds t QB := testB_ b ρ n h h2
theorem boolP_ {f1 f2 : Addr} {it : I} {C : Addr} {fs : List (Str × D)} {b : Bool} (e : it.val = .ins C fs) (hb : (HB.BoolCls K C f1 ∧ b = true) ∨ (HB.BoolCls K C f2 ∧ b = false)) (h : Q (.v (.bl b)) ρ n) : GB c ρ n ds (fun xs H Q => rBoolB K f1 true xs H Q ∨ rBoolB K f2 false xs H Q) [it] Q := gb1 fun σ H vs x F L B s k => by
  obtain ⟨B', lx, s2, mv, hx⟩ := s.it1
  obtain ⟨a, dx, fv, rfl, ha, rf⟩ := hx.ins s.sl e
  have q := k _ _ _ _ _ h ⟨L, B', s2.pushR (.bl b)⟩
  rcases hb with ⟨hb, rfl⟩ | ⟨hb, rfl⟩
  · exact .inl ⟨a, C, dx, fv, rfl, ha, hb, q⟩
  · exact .inr ⟨a, C, dx, fv, rfl, ha, hb, q⟩
end
end HN
/-! set(xs), xs a list of integers; sorted of it -/
namespace HQ
open PySem PySem.Spec PyProof.Rows L2 HX
/-! ### set(xs), xs a list of integers -/
def emptySet (w : World) : Obj := { cls := .type "set", dict := none, data := .set #[] 0 (.fresh 0 0 (!w.params.followText "set-order")) }
section
variable {P : Program} {w : World} {A : Around} {E : Value → Shared → Prop} {s : Shared}
theorem setOfInts {l : Addr} {zs : Array Value} (ms : List Int) {Q : Value → Shared → Prop} (calm : A.handled = none) (isl : s.heap.IsList l zs) (hin : IntsAre zs.toList ms) (few : ms.length + 1 < scanBound)
    (k : ∀ (h' : Heap) (tk m : Nat), SetR w h' s.heap.objs.size (fun j => decide (j ∈ ms)) m → m ≤ ms.length → (∀ b o, s.heap.get? b = some o → h'.get? b = some o) → Q (.ref s.heap.objs.size) { s with heap := h', toks := tk }) :
    wpAny (model P w) A (call (.type "set") [.ref l]) Q E s := by
  have size : zs.size = ms.length := by rw [← Array.length_toList]; exact IntsAre.length hin
  obtain ⟨_, _, hmro⟩ := F.called_set.mro
  have m1 := F.called_set.made
  have m2 := F.called_set.sub
  refine wpAny_call (codeAny_of_tree ?_)
  show wpAny _ _ (callAny (.type "set") _) _ _ _
  refine wpAny_pure ⟨Code.quiet_builtin _ (by decide +kernel), codeAny_builtin F.entry_type_call ?_⟩
  rw [Around.under_plain (weight_type_call_type "set" [.ref l] []) rfl]
  have m3 := F.called_set.notType
  have m4 := F.called_set.canCreate
  have m5 := F.typeCall_set_1 (.ref l)
  repeat (any_goals (first | assumption | wp_step))
  refine codeAny_mono (code_set_led1 (.ref l) (E := E) (Q₁ := fun o t => o = .ref s.heap.objs.size ∧ t = { s with heap := s.heap.push (emptySet w) }) ⟨rfl, rfl⟩) fun r t hr => ?_
  match r, hr with
  | .error e, hr => exact hr
  | .ok (.ret o), hr =>
    obtain ⟨rfl, rfl⟩ := hr
    generalize eS : s.heap.push (emptySet w) = G
    have atS : G.get? s.heap.objs.size = some (emptySet w) := by rw [← eS]; exact Heap.get?_push_size _ rfl
    have old : ∀ b o, s.heap.get? b = some o → G.get? b = some o := fun b o e => by rw [← eS]; exact Heap.get?_push_of_some _ e
    have szG : G.objs.size = s.heap.objs.size + 1 := by rw [← eS]; exact Heap.size_push ..
    have ty : Shared.TypeIs { s with heap := G } (.ref s.heap.objs.size) "set" := ⟨_, atS, rfl⟩
    have n1 := F.called_set.init.lookup
    have n2 := F.called_set.init.bind (.ref s.heap.objs.size)
    repeat (any_goals (first | assumption | wp_step))
    refine codeAny_mono (codeAny_call_builtin (R := wants (fun r t => r = .none ∧ ∃ h' tk m, t = { s with heap := h', toks := tk } ∧ SetR w h' s.heap.objs.size (fun j => decide (j ∈ ms)) m ∧ m ≤ ms.length ∧ (∀ b o, s.heap.get? b = some o → h'.get? b = some o)) E) F.called_set.init.plain F.entry_set_init (check_set_init_1 ty ?_)) fun r2 t2 hr2 => ?_
    · obtain ⟨⟨oc, od, ot, os⟩, e1, e2, nl, e3⟩ := isl
      simp only at e2 e3
      subst e2; subst e3
      have atL := old _ _ e1
      have u1 := F.sub_list_set
      have u2 := F.sub_list_frozenset
      have u3 : (Value.type "list" == Value.type "dict") = false := by decide
      have isG : G.IsList l zs := ⟨_, atL, rfl, nl, rfl⟩
      unfold Builtin.«set.__init__» noKeywords Builtin.Frozenset.updateFrom
      generalize hp : pyIter = p
      wp_walk
      subst hp
      refine wpAny_pyIter_list isG (wpAny_bind (wpAny_runValue ?_))
      have lt : l < s.heap.objs.size := Heap.lt_size e1
      have calm3 : A.in1.in1.in1.handled = none := by simp [calm]
      have ne : l ≠ G.objs.size := by rw [szG]; exact Nat.ne_of_lt (Nat.lt_succ_of_lt lt)
      have nin : s.heap.objs.size ∉ [G.objs.size, l] := by
        rw [szG]
        simp only [List.mem_cons, List.not_mem_nil, or_false, not_or]
        exact ⟨Nat.ne_of_lt (Nat.lt_succ_self _), Nat.ne_of_gt lt⟩
      refine set_update_ints ((Walks.list calm3 _ l ne zs).toS) s.heap.objs.size nin ms size few (fun i v hv => ?_) (zs.size - 0) 0 _ (by omega) (Nat.zero_le _) ⟨⟨_, Heap.get?_push_size _ rfl, rfl, rfl⟩, isG.push _⟩ ⟨0, Nat.le_refl 0, setR_new_at (Heap.get?_push_of_some _ atS)⟩ (fun t m hm hc hS => ?_)
      · have hi : i < ms.length := by rw [← size]; exact (Array.getElem?_eq_some_iff.mp hv).1
        obtain ⟨tk, e⟩ := PyProof.Rows.IntsAre.int_at hin i v (by rw [Array.getElem?_toList]; exact hv)
        refine ⟨ms[i], tk, List.getElem?_eq_getElem hi, ?_⟩
        rw [e, List.getD_eq_getElem?_getD, List.getElem?_eq_getElem hi] <;> rfl
      · obtain ⟨h', g2, d2, tk, os2⟩ := t
        obtain rfl : g2 = s.gens := hm.gens
        obtain rfl : d2 = s.drawn := hm.drawn
        obtain rfl : os2 = s.os := hm.os
        show wpAny _ _ _ _ _ _
        refine wpAny_pure ?_
        show wpAny _ _ (ret Value.none) _ _ _
        rw [size] at hc
        refine wpAny_pure ⟨rfl, h', tk, m, rfl, hS, hc, fun b o e => hm.heap b o ?_ (Heap.get?_push_of_some _ (old b o e))⟩
        have hb : b < s.heap.objs.size := Heap.lt_size e
        rw [szG]
        simp only [List.mem_cons, List.not_mem_nil, or_false, not_or]
        exact ⟨Nat.ne_of_lt hb, Nat.ne_of_lt (Nat.lt_succ_of_lt hb)⟩
    · match r2, hr2 with
      | .error e, hr2 => exact hr2
      | .ok (.ret r), hr2 =>
        obtain ⟨rfl, h', tk, m, rfl, a1, a2, a3⟩ := hr2
        repeat (any_goals (first | assumption | wp_step))
        exact k _ _ _ a1 a2 a3
      | .ok .next, hr2 => exact hr2.elim
      | .ok .brk, hr2 => exact hr2.elim
      | .ok .cont, hr2 => exact hr2.elim
  | .ok .next, hr => exact hr.elim
  | .ok .brk, hr => exact hr.elim
  | .ok .cont, hr => exact hr.elim
end
section
variable {X : Cx} {K : PySem.W.Frag}
def rSetL (K : PySem.W.Frag) (w : World) : List V → Hp → VK → Prop := fun xs H Q => ∃ (l : Addr) (ns : List Int), xs = [.ref l] ∧ SqL K H l (ns.map V.int) ∧ ns.length < 1000 ∧ ∀ p m, H p = none → m ≤ ns.length → Q (.ref p) (upd H p (SetO w p (fun j => decide (j ∈ ns)) m))
theorem call_setL (hc : X.calm = true) (hK : X.K = K := by rfl) : CallR X (.type "set") (rSetL K X.w) := by
  cases hK
  intro pins s σ H xs us Q I r h
  obtain ⟨l, ns, rfl, hq, hl, q⟩ := h
  obtain rfl := Vals.ref1 r
  obtain ⟨its, rv, pl, hz⟩ := I.list hq
  refine setOfInts (I.ok.hd hc) pl.isList (ms := ns) (by simpa using rv.ints) (by unfold scanBound; omega) fun h' tk m hS hm hk => ?_
  exact ⟨.ref _, _, I.laid (t' := tk) hk (Nat.le_refl _) (setO_new hS), rfl, q _ m (I.hok.fresh (Nat.le_refl _)) hm⟩
end
section
open HD
variable {K : PySem.W.Frag} {c : Wd K} {ρ : List S} {n : Nat} {ds : List I} {Q : QI}
/-- sorted(set(e)) -/
theorem sortSet_ {w : World} {te : TE} (h : GE c ρ n ds te fun it ρ' n' => ∃ ns : List Int, it.val = .lst (ns.map D.int) ∧ ns.length < 64 ∧ ∀ ms : List Int, ms.Pairwise (· < ·) → (∀ k, k ∈ ms ↔ k ∈ ns) → ms.length ≤ ns.length → Q (.o (.lst (ms.map D.int))) ρ' n') :
    GE c ρ n ds (tCB (rSortedSet w) (tCons (tCB (rSetL K w) (tCons te tNil)) tNil)) Q := fun σ H vs F s k =>
  h σ H vs _ s fun it ρ' n' v H' ⟨ns, e, hl, q⟩ ⟨L, B, s'⟩ => by
    obtain ⟨a, ws, B', e1, e2, s2, ra⟩ := s'.lsp e
    obtain rfl := ra.ints
    subst e1
    refine ⟨a, ns, rfl, SqL.of e2, by omega, fun p m hp hm => ?_⟩
    refine ⟨p, _, m, rfl, upd_same, by omega, fun ms r hs hm2 hln hr => ?_⟩
    have s3 := s2.same (HX.same_new (o := SetO w p (fun j => decide (j ∈ ns)) m) hp)
    exact k _ _ _ _ _ (q ms hs (fun k => (hm2 k).trans ⟨fun z => of_decide_eq_true z, fun z => decide_eq_true z⟩) (by omega)) ⟨L, _, s3.pushO hr (RA.ofInts ms)⟩
end
end HQ
/-! repr of data; sorted(set(..)) of integers; zip, enumerate on data -/
namespace HU
open PySem PySem.Spec PyProof.Rows L2 HX
theorem nd_ {c : Prop} [Decidable c] (h : c) : (!decide c) = false := by rw [decide_eq_true h]; rfl
theorem nt_ {c : Prop} [Decidable c] (h : ¬ c) : (!decide c) = true := by rw [decide_eq_false h]; rfl
/-! ### repr -/
def rRep (K : PySem.W.Frag) : List V → Hp → VK → Prop := fun xs H Q => ∃ p d, xs = [.ref p] ∧ Dp K H (.ref p) d ∧ d.showable = true ∧ d.hasDict = false ∧ d.depth < 30 ∧ d.shown.length ≤ sizeLine ∧ Q (.str d.shown) H
theorem call_reprD {X : Cx} {K : PySem.W.Frag} (hu : X.A.units + 64 < cLine) (hg : X.A.guards = some [] := by rfl) (hK : X.K = K := by rfl) : CallR X (.builtin "repr") (rRep K) := by
  cases hK
  intro pins s σ H xs us Q I r h
  obtain ⟨p, d, rfl, hd, h1, h2, h3, h4, q⟩ := h
  obtain rfl := Vals.ref1 r
  obtain ⟨as, r1⟩ := Dp.reads I d (.ref p) (.ref p) hd rfl
  refine repr_of_reads' r1 h1 (fun z => by rw [h2] at z; cases z) hg (by omega) (fun _ _ z => z) (fun h' u tk hk => ?_) h4
  exact ⟨.str d.shown, H, I.kept hk, ⟨_, rfl⟩, q⟩
section
open HD
variable {K : PySem.W.Frag} {c : Wd K} {ρ : List S} {n : Nat} {ds : List I} {Q : QI}
theorem repr_ {it : I} (hd : it.val.dat = true) (hr : it.val.seq.isSome = true) (h1 : it.val.py.showable = true) (h2 : it.val.py.hasDict = false) (h3 : it.val.py.depth < 30) (h4 : it.val.py.shown.length ≤ sizeLine) (h : Q (.v (.str it.val.py.shown)) ρ n) : GB c ρ n ds (rRep K) [it] Q := gb1 fun σ H vs x F L B s k => by
  obtain ⟨B', lx, s2, mv, hx⟩ := s.it1
  have dp := hx.dpv s.sl hd
  cases e : it.val.seq with
  | none => rw [e] at hr; cases hr
  | some xs =>
    obtain ⟨a, ws, rfl, _⟩ := IR.seq s.sl hx e
    exact ⟨a, _, rfl, dp, h1, h2, h3, h4, k _ _ _ _ _ h ⟨L, B', s2.pushR (.str _)⟩⟩
def zipD : List D → List D → List D := List.zipWith fun a b => .tup [a, b]
theorem zipD_at : ∀ {xs ys : List D} {i : Nat} {d : D}, (zipD xs ys)[i]? = some d → ∃ x y, xs[i]? = some x ∧ ys[i]? = some y ∧ d = .tup [x, y]
  | [], _, _, _, h => by simp [zipD] at h
  | _ :: _, [], _, _, h => by simp [zipD] at h
  | x :: xs, y :: ys, 0, d, h => by cases h; exact ⟨x, y, rfl, rfl, rfl⟩
  | x :: xs, y :: ys, i + 1, d, h => zipD_at (xs := xs) (ys := ys) (i := i) h
theorem zipD_len {xs ys : List D} : (zipD xs ys).length = min xs.length ys.length := by unfold zipD; rw [List.length_zipWith]
theorem izipL_ {ta : TA} {Q : List I → List D → QS} (h : GA c ρ n ds ta fun its ρ' n' => ∃ x y xs ys, its = [x, y] ∧ x.val = .lst xs ∧ y.val = .lst ys ∧ Q [.v (.lst xs), .v (.lst ys)] (zipD xs ys) (frz [x, y] ρ') n') : GI c ρ n ds (RZ.iZipA K ta) Q := fun σ H vs F s k =>
  h σ H vs _ s fun its ρ' n' ws H' ⟨ix, iy, xs, ys, e, ex, ey, q⟩ hl s' => by
    subst e
    match ws, hl with
    | [x, y], _ =>
    have s2 : St c (frz [ix, iy] ρ') n' (.v (.lst xs) :: .v (.lst ys) :: ds) σ H' (x :: y :: vs) := by
      have := St.frzs (is := [ix, iy]) (ws := [x, y]) rfl s'
      rw [show [ix, iy].map fv = [.v (.lst xs), .v (.lst ys)] from by simp only [List.map, fv, ex, ey]] at this
      exact this
    have main : ∀ {ds : List I} {vs : List V} {ρ : List S} {n : Nat} {ex : List I} {σ : L2.St} {H : Hp} {ews : List V}, ews.length = ex.length → St c ρ n (ex ++ ([.v (.lst xs), .v (.lst ys)] ++ ds)) σ H (ews ++ ([x, y] ++ vs)) → ∃ L B a b us ws, x = .ref a ∧ y = .ref b ∧ StX c L B ρ n (ex ++ ([.v (.lst xs), .v (.lst ys)] ++ ds)) σ H (ews ++ ([x, y] ++ vs)) ∧ H a = some (.lst us) ∧ RA K c.g (Mo c (L ++ B)) H us xs ∧ H b = some (.lst ws) ∧ RA K c.g (Mo c (L ++ B)) H ws ys := by
      intro ds vs ρ n ex σ H ews hl ⟨L, B, s⟩
      have r1 := s.peek (d := .lst xs) (w := x) hl
      have r2 := StX.peek (ex := ex ++ [.v (.lst xs)]) (ews := ews ++ [x]) (d := .lst ys) (w := y) (ds := ds) (vs := vs) (by simp [hl]) (by simpa using s)
      cases r1 with
      | lst _ h1 q1 =>
        cases r2 with
        | lst _ h2 q2 => exact ⟨L, B, _, _, _, _, rfl, rfl, s, h1, q1, h2, q2⟩
    obtain ⟨_, _, a, b, us, ws, rfl, rfl, _, ha, _, hb, _⟩ := main (ex := []) (ews := []) rfl s2
    refine ⟨a, b, us, ws, rfl, .inl ⟨SqL.of ha, SqL.of hb, k [.v (.lst xs), .v (.lst ys)] _ _ n' [.ref a, .ref b] _ H' q rfl s2 fun ds vs => ⟨?_, ?_, ?_⟩⟩⟩
    · intro i ρ n ex σ H ews hi hl s
      obtain ⟨L, B, a', b', us, ws, e1, e2, s, ha, r1, hb, r2⟩ := main hl s
      cases e1; cases e2
      rw [zipD_len] at hi
      have h1 : i < us.length := by rw [r1.len]; omega
      have h2 : i < ws.length := by rw [r2.len]; omega
      exact ⟨us, ws, us[i], ws[i], SqL.of ha, SqL.of hb, List.getElem?_eq_getElem h1, List.getElem?_eq_getElem h2⟩
    · intro i d ρ n ex σ H ews z H2 hd hl s ⟨T, u, w, e1, e2, e3, e4, e5⟩
      obtain ⟨L, B, a', b', us, ws, f1, f2, s, ha, r1, hb, r2⟩ := main hl s
      cases f1; cases f2
      subst e1 e3
      obtain ⟨dx, dy, g1, g2, rfl⟩ := zipD_at hd
      obtain ⟨u', hu, ru⟩ := r1.at g1
      obtain ⟨w', hw, rw'⟩ := r2.at g2
      have := e4 us (SqL.of ha); rw [hu] at this; cases this
      have := e5 ws (SqL.of hb); rw [hw] at this; cases this
      exact ⟨L, B, s.pushT e2 (.cons ru (.cons rw' .nil))⟩
    · intro ρ n ex σ H ews hl s
      obtain ⟨L, B, a', b', us, ws, e1, e2, s, ha, r1, hb, r2⟩ := main hl s
      cases e1; cases e2
      refine ⟨us, ws, SqL.of ha, SqL.of hb, ?_⟩
      rw [zipD_len, r1.len, r2.len]
      omega
theorem izipT_ {ta : TA} {Q : List I → List D → QS} (h : GA c ρ n ds ta fun its ρ' n' => ∃ xs ys, its = [.v (.tup xs), .v (.tup ys)] ∧ Q [.v (.tup xs), .v (.tup ys)] (zipD xs ys) ρ' n') : GI c ρ n ds (RZ.iZipA K ta) Q := fun σ H vs F s k =>
  h σ H vs _ s fun its ρ' n' ws H' ⟨xs, ys, e, q⟩ hl s2 => by
    subst e
    match ws, hl with
    | [x, y], _ =>
    have main : ∀ {ds : List I} {vs : List V} {ρ : List S} {n : Nat} {ex : List I} {σ : L2.St} {H : Hp} {ews : List V}, ews.length = ex.length → St c ρ n (ex ++ ([.v (.tup xs), .v (.tup ys)] ++ ds)) σ H (ews ++ ([x, y] ++ vs)) → ∃ L B a b us ws, x = .ref a ∧ y = .ref b ∧ StX c L B ρ n (ex ++ ([.v (.tup xs), .v (.tup ys)] ++ ds)) σ H (ews ++ ([x, y] ++ vs)) ∧ SqT K H a us ∧ RA K c.g (Mo c (L ++ B)) H us xs ∧ SqT K H b ws ∧ RA K c.g (Mo c (L ++ B)) H ws ys := by
      intro ds vs ρ n ex σ H ews hl ⟨L, B, s⟩
      have r1 := s.peek (d := .tup xs) (w := x) hl
      have r2 := StX.peek (ex := ex ++ [.v (.tup xs)]) (ews := ews ++ [x]) (d := .tup ys) (w := y) (ds := ds) (vs := vs) (by simp [hl]) (by simpa using s)
      cases r1 with
      | tup h1 q1 =>
        cases r2 with
        | tup h2 q2 => exact ⟨L, B, _, _, _, _, rfl, rfl, s, h1.sqt, q1, h2.sqt, q2⟩
    obtain ⟨_, _, a, b, us, ws, rfl, rfl, _, ha, _, hb, _⟩ := main (ex := []) (ews := []) rfl s2
    refine ⟨a, b, us, ws, rfl, .inr ⟨ha, hb, k [.v (.tup xs), .v (.tup ys)] _ _ n' [.ref a, .ref b] _ H' q rfl s2 fun ds vs => ⟨?_, ?_, ?_⟩⟩⟩
    · intro i ρ n ex σ H ews hi hl s
      obtain ⟨L, B, a', b', us, ws, e1, e2, s, ha, r1, hb, r2⟩ := main hl s
      cases e1; cases e2
      rw [zipD_len] at hi
      have h1 : i < us.length := by rw [r1.len]; omega
      have h2 : i < ws.length := by rw [r2.len]; omega
      exact ⟨us, ws, us[i], ws[i], ha, hb, List.getElem?_eq_getElem h1, List.getElem?_eq_getElem h2⟩
    · intro i d ρ n ex σ H ews z H2 hd hl s ⟨T, u, w, e1, e2, e3, e4, e5⟩
      obtain ⟨L, B, a', b', us, ws, f1, f2, s, ha, r1, hb, r2⟩ := main hl s
      cases f1; cases f2
      subst e1 e3
      obtain ⟨dx, dy, g1, g2, rfl⟩ := zipD_at hd
      obtain ⟨u', hu, ru⟩ := r1.at g1
      obtain ⟨w', hw, rw'⟩ := r2.at g2
      have := e4 us ha; rw [hu] at this; cases this
      have := e5 ws hb; rw [hw] at this; cases this
      exact ⟨L, B, s.pushT e2 (.cons ru (.cons rw' .nil))⟩
    · intro ρ n ex σ H ews hl s
      obtain ⟨L, B, a', b', us, ws, e1, e2, s, ha, r1, hb, r2⟩ := main hl s
      cases e1; cases e2
      refine ⟨us, ws, ha, hb, ?_⟩
      rw [zipD_len, r1.len, r2.len]
      omega
end
theorem pi_zipK {X : Cx} {K : PySem.W.Frag} {e e2 : Expr} {ta : TA} {p pos tpos : Pos} {elts : List Expr} {kk : Nat} (hg : Gl X "zip") (hm : X.mg "zip" = none) (ha : PA X [e, e2] ta)
    (hs : starEach [e, e2] X.env = (false, eval e X.env) :: starEach [e2] X.env := by rfl) (hpl : (backTo pos (starEach [e2] X.env)).any (·.1) = false := by rfl) (hK : X.K = K := by rfl) :
    PI X (.Tuple elts kk tpos) (.Call (.Name "zip" p) [e, e2] [] pos) (RZ.iZipA K ta) := by cases hK; exact RZ.pi_zipA hg hm ha hs hpl
/-! a, b, .. = a list or a tuple -/
def gSeq (K : PySem.W.Frag) (n : Nat) (t : TGs) : TG := fun v σ H Q => gUnl K n t v σ H Q ∨ gTup K n t v σ H Q
theorem pg_seqK {X : Cx} {K : PySem.W.Frag} {es : List Expr} {k : Nat} {pos : Pos} {t : TGs} (n : Nat) (hc : X.calm = true) (h : PGs X es t)
    (hn : (assignEach es X.env).length = n := by rfl) (hst : (assignEach es X.env).findIdx? (·.1) = none := by rfl) (hK : X.K = K := by rfl) : PG X (.Tuple es k pos) (gSeq K n t) := by
  cases hK
  refine ⟨fun pins s σ H v u Q I r hw => ?_⟩
  rcases hw with hw | hw
  · exact (HX.pg_unlK n hc h hn hst).run pins s σ H v u Q I r hw
  · exact (HX.pg_tupK n hc h hn hst).run pins s σ H v u Q I r hw
section
open HD
variable {K : PySem.W.Frag} {c : Wd K} {ρ : List S} {n : Nat} {ds : List I} {QG : QS}
theorem gseqL_ {m : Nat} {gs : TGs} {it : I} {xs : List D} (e : it.val = .lst xs) (hl : xs.length = m) (h : GGs c ρ n ds gs (xs.map I.v) QG) : GG c ρ n ds (gSeq K m gs) it QG := fun σ H vs v F s k => .inl (HD.gunl_ e hl h σ H vs v F s k)
theorem gseqT_ {m : Nat} {gs : TGs} {xs : List D} (hl : xs.length = m) (h : GGs c ρ n ds gs (xs.map I.v) QG) : GG c ρ n ds (gSeq K m gs) (.v (.tup xs)) QG := fun σ H vs v F s k => .inr (HD.gtup_ hl h σ H vs v F s k)
end
section
open HD
variable {K : PySem.W.Frag} {c : Wd K} {n : Nat} {ds : List I}
/-- behind a loop: the ways out come to one -/
theorem endBy {g : TG} {tb : TS} {nx bk ct : QS} {rt : I → Nat → Prop} (Mid : QS) : ∀ {xs : List D} {ρ : List S} {n : Nat}, ForD c ds g tb ⟨Mid, rt, bk, ct⟩ xs ρ n → (∀ ρ n, Mid ρ n → nx ρ n) → ForD c ds g tb ⟨nx, rt, bk, ct⟩ xs ρ n
  | [], _, _, h, h2 => h2 _ _ h
  | x :: xs, _, _, h, h2 => fun σ H vs v F s k => h σ H vs v F s fun ρ1 n1 σ1 H1 q s1 => k _ _ _ _ (q.mono (fun ρ n z => endBy Mid z h2) (fun _ _ z => z) (fun ρ n z => h2 ρ n z) (fun ρ n z => endBy Mid z h2)) s1
end
end HU
/-! a law whose own body calls repr: its promise is wanted only where no repr is under way -/
namespace HV
open PySem PySem.Spec PyProof.Rows L2 HX
structure FnG (P : Program) (w : World) (K : PySem.W.Frag) (mg : Str → Option Value) (base : Heap) (k : Nat) (f : Addr) (fd : FuncData) (ps : List Str) (sp : Sp) : Prop where
  run : ∀ (A : Around) (outer : List Env) (s : Shared) (H : Hp) (us : List Value) (vs : List V) (Q : VK) (E : XK), A.guards = some [] → Room k A → Env0 P w K mg base A outer s H → BindsTo s fd ⟨us, []⟩ (ps.zip us) → Vals vs us → sp vs H Q E →
    codeAny (model P w) A (.call (.ref f) ⟨us, []⟩) (CR CX0 outer P w H s Q E) s
section
variable {P : Program} {w : World} {K : PySem.W.Frag} {mg : Str → Option Value} {base : Heap}
theorem okG {x qual : Str} {st : Stmt} {f : Addr} {fd : FuncData} {N ps : List Str} {k : Nat} {sp : Sp} (F : Fun K x qual st f fd) (S : FnScope N ps (defScope st)) (len : ∀ vs H Q E, sp vs H Q E → vs.length = ps.length)
    (hbody : ∀ (cdv : Value) (A : Around) (outer : List Env) (s : Shared) (H : Hp) (vs : List V) (Q : VK) (E : XK), (A.deeper (envOfC qual (defScope st) s.heap.objs.size f cdv)).guards = some [] → Room k (A.deeper (envOfC qual (defScope st) s.heap.objs.size f cdv)) → sp vs H Q E →
      ∃ t, PSs (cxOf CX0 P w K mg base N qual (defScope st) f cdv A outer s H E).nox (defBody st) t ∧ t { nx := fun _ H' => Q .non H', rt := Q } (start N vs) H) : FnG P w K mg base (k + 1) f fd ps sp := by
  obtain ⟨oc, od, kV, doc, pm, an, cdv, ct, osl, rfl, lk, hcd⟩ := F.ex
  refine ⟨fun A outer s H us vs Q E hg hr e0 hb r hsp => ?_⟩
  have KX : K.In s.heap := e0.mod.kin.keeps fun b o e => (e0.bs b o e).1
  have lim : s.heap.NoLimit := e0.mod.nolimit.keeps fun b o e => (e0.bs b o e).1
  refine Att.call_fn KX lim lk hcd hr.depth hb ?_ (fun s1 x => ?_) S.co S.gen S.kind
  · refine List.all_eq_true.mpr fun y hy => ?_
    rcases S.par y.1 (List.of_mem_zip (a := y.1) (b := y.2) hy).1 with q | q <;> rw [q] <;> rfl
  · obtain ⟨t, ht, hq⟩ := hbody cdv A outer s H vs Q E hg (hr.deeper _) hsp
    have I := inv_start (CX := CX0) (E := E) S hr.hd e0 (len _ _ _ _ hsp) r x
    refine wpAny_mono (ht.nox.run [] s1 (start N vs) H _ I hq) (fun fl s' hs => ?_) fun e s' hs => hs
    cases fl with
    | ret u =>
      obtain ⟨v, σ', H', J, rv, q⟩ := hs
      exact ⟨v, H', J.os, J.bare, J.base, J.hok, rv, q⟩
    | next =>
      obtain ⟨σ', H', J, q⟩ := hs
      exact ⟨.non, H', J.os, J.bare, J.base, J.hok, rfl, q⟩
    | brk => obtain ⟨_, _, _, q⟩ := hs; exact q.elim
    | cont => obtain ⟨_, _, _, q⟩ := hs; exact q.elim
/-- the promise, taken at the call that the statement makes -/
theorem at_call {k : Nat} {fa a : Addr} {fd : FuncData} {x : Str} {sp : Sp} {s : Shared} {H : Hp} {mb : Str → Option Value} {vs : List Value} (KX : K.In s.heap) (hns : s.heap.Ns mainGlobals mg) (hb : s.heap.Ns builtinsNs mb) (hbb : ∀ x : Str, x ≠ "__name__" → mb x = bootBuiltins x) (hlim : s.heap.NoLimit) (hg : s.gens = #[])
    (ha : s.heap.get? a = some { cls := .type "list", data := .seq vs.toArray }) (hr : Room k callerA) (F : ∀ base : Heap, K.In base → base.Ns mainGlobals mg → FnG P w K mg base k fa fd [x] sp) (hbind : ∀ (s : Shared) (u : Value), BindsTo s fd ⟨[u], []⟩ [(x, u)])
    (hO : ∀ b, H b = none ∨ (b = a ∧ ∃ o xs, H b = some (.frz o (.lst xs)))) (hok : HOk P w H s.heap) (hK : H a ≠ none → K.lookup a = none) (hsp : sp [.ref a] H (fun v _ => v = .bl true) fun _ _ _ => False) :
    codeAny (model P w) callerA (.call (.ref fa) ⟨[.ref a], []⟩) (fun r s' => r = .ok (.ret (.bool true)) ∧ OldK s.heap s'.heap ∧ s'.os = s.os ∧ AllBare s'.gens) s := by
  have un : ∀ {b : Addr}, b ≠ a → H b = none := fun {b} h => (hO b).resolve_right fun z => h z.1
  have ns : ∀ {b : Addr} {m : Str → Option Value}, s.heap.Ns b m → (hidT s.heap H).Ns b m := fun {b m} ⟨o, es, ep, e, d, r⟩ => by
    refine ⟨o, es, ep, hidT_get e (un fun z => ?_), d, r⟩
    subst z
    rw [ha] at e
    cases e
    exact absurd (show Data.seq vs.toArray _ = Data.dict es ep from d) (by simp)
  have kin : K.In (hidT s.heap H) := fun b o e => by
    refine hidT_get (KX b o e) ?_
    by_cases z : b = a
    · subst z
      rcases hO b with y | ⟨_, o, xs, y⟩
      · exact y
      · have := hK (by rw [y]; simp)
        rw [this] at e; cases e
    · exact un z
  have md : Mod K mg (hidT s.heap H) := ⟨kin, ns hns, ⟨mb, ns hb, hbb⟩, by obtain ⟨mc, h1, h2⟩ := hlim; exact ⟨mc, ns h1, h2⟩⟩
  have e0 : Env0 P w K mg (hidT s.heap H) callerA [] s H := ⟨rfl, md, fun b o e => of_hidT e, Nat.le_of_eq (hidT_size _ _), trivial, fun b hb => absurd (show b ∈ ([] : List Addr) from hb) (by simp), hok, .of_eq hg⟩
  refine codeAny_mono ((F _ kin (ns hns)).run callerA [] s H [.ref a] [.ref a] _ _ rfl hr e0 (hbind s (.ref a)) (.cons rfl .nil) hsp) fun r s' h => ?_
  cases r with
  | error e => exact h.elim
  | ok fl =>
    cases fl with
    | ret u =>
      obtain ⟨v, H', os, bare, ko, hok', r', q⟩ := h
      cases (show v = .bl true from q)
      cases (show u = Value.bool true from r')
      refine ⟨rfl, OldK.of_keep fun b o e => ?_, os, bare⟩
      rcases hO b with z | ⟨_, ob, xs, z⟩
      · exact ko.keep b o e z (fun y => by cases y) (by simp)
      · obtain ⟨e1, _⟩ := hok b _ z
        obtain ⟨e2, _⟩ := hok' b _ (ko.frzs b ob _ z)
        rw [e] at e1
        cases e1
        exact e2
    | next => exact h.elim
    | brk => exact h.elim
    | cont => exact h.elim
end
theorem walkG {l : PySem.W.OpenLaw} {n k : Nat} {q : Program} {loose : List Str} {XP : (Str → Option Value) → Heap → Prop} {YP : World → Heap → Prop} {d : DefRec} {K : Params → PySem.W.Frag} {sp : World → Sp} {x : Str}
    (hn : l.most = some n) (hn2 : n ≤ sizeLine) (hdf : d.params.defaults = []) (hr : Room k callerA)
    (hY : ∀ (w : World) (h : Heap), YP w h → (K w.params).In h)
    (F : ∀ (w : World) (mg : Str → Option Value) (fa : Addr) (h : Heap), (K w.params).In h → h.Ns mainGlobals mg → mg d.name = some (.ref fa) →
      ∃ fd : FuncData, (∀ (s : Shared) (u : Value), BindsTo s fd ⟨[u], []⟩ [(x, u)]) ∧ ∀ base : Heap, (K w.params).In base → base.Ns mainGlobals mg → FnG l.prog w (K w.params) mg base k fa fd [x] (sp w))
    (hsp : ∀ (w : World) (H : Hp) (a : Addr) (ns : List Int), ns.length ≤ n → SqL (K w.params) H a (ns.map V.int) → sp w [.ref a] H (fun v _ => v = .bl true) fun _ _ _ => False) :
    PySem.W.WalkO q loose XP YP l.row.toRowW d [] (fun f vs => PySem.call f vs) := by
  refine Att.attach_call hn hdf fun w s₀ s mg mb fa o pm cd doc a vs ns G Y ho hd hcd hmg ha hi hl hg => ?_
  obtain ⟨fd, hb, hF⟩ := F w mg fa _ (hY w _ Y) G.T.g hmg
  have rv := vals_ints hi
  have hl2 : ns.length ≤ sizeLine := Nat.le_trans hl hn2
  have go := fun H h1 h2 h3 h4 => at_call (P := l.prog) (w := w) (K := K w.params) (H := H) (hY w _ Y) G.T.g G.T.b G.T.builtins G.T.nolimit hg ha hr hF hb h1 h2 h3 (hsp w H a ns hl h4)
  by_cases hk : (K w.params).lookup a = none
  · refine go (fun b => if b = a then some (.frz { cls := .type "list", data := .seq vs.toArray } (.lst (ns.map V.int))) else none) (fun b => ?_) (fun b u z => ?_) (fun _ => hk) (.inl (.inr ⟨_, if_pos rfl⟩))
    · by_cases e : b = a
      · exact .inr ⟨e, _, _, if_pos e⟩
      · exact .inl (if_neg e)
    · by_cases e : b = a
      · cases (if_pos e).symm.trans z
        subst e
        exact ⟨ha, by rw [List.length_map]; exact hl2, vs, _, rv, ha⟩
      · cases (if_neg e).symm.trans z
  · obtain ⟨o, e⟩ := Option.ne_none_iff_exists'.mp hk
    have e2 := hY w _ Y a o e
    rw [ha] at e2
    cases e2
    refine go (fun _ => none) (fun b => .inl rfl) (fun b u z => by cases (show (none : Option HO) = some u from z)) (fun z => absurd rfl z) (.inr ⟨_, vs.toArray, _, e, rfl, rfl, rfl, by rw [List.size_toArray, hi.length]; exact hl2, by simpa using rv⟩)
end HV
/-! enumerate of a list or a tuple -/
namespace HW
open PySem PySem.Spec PyProof.Rows L2 HX
theorem meets_enum1 {v : Value} {o : Obj} {H : Heap → Prop} (B : Begins v o H) :
    Meets (Builtin.«enumerate.__new__» ⟨[.type "enumerate", v], []⟩) (fun _ R s => H s.heap ∧
      R (.ok (.ret (.ref (s.heap.push o).objs.size))) { s with heap := (s.heap.push o).push { cls := .type "enumerate", data := .fields #[.none, .bool false, .ref s.heap.objs.size, rawInt 0, .none, .none] } }) :=
  .of_wp fun prog w A R s h => by
    obtain ⟨hp, g, d, tk, os⟩ := s; obtain ⟨h1, h⟩ := h
    have hsub := sub_enumerate
    have q1 : ∀ {A' : Around} {E : Value → Shared → Prop} {Q : Value → Shared → Prop}, Q (.ref hp.objs.size) ⟨hp.push o, g, d, tk, os⟩ → wpAny (model prog w) A' (pyIter v) Q E ⟨hp, g, d, tk, os⟩ :=
      fun q => B.iter prog w _ _ ⟨hp, g, d, tk, os⟩ _ h1 q
    wp_walk using q1
    refine wpAny_stack_any fun st => wpAny_pure ?_
    split
    · rename_i c _ _ _ _ _
      cases (c == Value.type "enumerate")
      · wp_walk using q1
        exact ⟨_, rfl, h⟩
      · wp_walk using q1
        exact ⟨_, rfl, h⟩
    · wp_walk using q1
      exact ⟨_, rfl, h⟩
theorem call_enum1 {prog : Program} {w : World} {A : Around} {E : Value → Shared → Prop} {s : Shared} {v : Value} {o : Obj} {H : Heap → Prop} {Q : Value → Shared → Prop} (B : Begins v o H) (h1 : H s.heap)
    (h : ∀ h', IsEnum h' (s.heap.objs.size + 1) s.heap.objs.size 0 .none → h'.get? s.heap.objs.size = some o → h'.objs.size = s.heap.objs.size + 2 →
      (∀ b o, s.heap.get? b = some o → h'.get? b = some o) → Q (.ref (s.heap.objs.size + 1)) { s with heap := h' }) :
    wpAny (model prog w) A (call (.type "enumerate") [v]) Q E s := by
  refine callType_new F.called_enumerate (by decide) (F.typeCall_enumerate_1 _) (F.newCall_enumerate_1 _) (fun obj => F.args_object_init_2 obj _) F.entry_enumerate_new
    (meets_enum1 B) ⟨h1, ?_⟩
  have hz : (s.heap.push o).objs.size = s.heap.objs.size + 1 := Heap.size_push ..
  show _ ∧ _
  rw [hz]
  have he : IsEnum ((s.heap.push o).push { cls := .type "enumerate", data := .fields #[.none, .bool false, .ref s.heap.objs.size, rawInt 0, .none, .none] }) (s.heap.objs.size + 1) s.heap.objs.size 0 .none := by
    have := Heap.get?_push_size (s.heap.push o) (o := { cls := .type "enumerate", data := .fields #[.none, .bool false, .ref s.heap.objs.size, rawInt 0, .none, .none] }) rfl
    rw [hz] at this; exact this
  exact ⟨⟨_, he, rfl⟩, h _ he (Heap.get?_push_of_some _ (Heap.get?_push_size _ B.free)) (by rw [Heap.size_push, hz]) fun b o x => Heap.get?_push_of_some _ (Heap.get?_push_of_some _ x)⟩
/-- the tuple at a, each item in a new pair -/
def IteT (K : PySem.W.Frag) (a : Addr) : It :=
  ⟨fun i H => ∃ (xs : List V) (x : V), SqT K H a xs ∧ xs[i]? = some x, fun i H v H' => ∃ T x, v = .ref T ∧ H T = none ∧ H' = upd H T (.tup [.int (i : Nat), x]) ∧ ∀ xs, SqT K H a xs → xs[i]? = some x, fun i H => ∃ xs : List V, SqT K H a xs ∧ xs.length ≤ i⟩
theorem turn_enumT {P : Program} {w : World} {K : PySem.W.Frag} {elts : List Expr} {kk : Nat} {tpos : Pos} (a e it : Addr) :
    Turn P w K (.Tuple elts kk tpos) (IteT K a) [e, it] e (fun i h => (∃ old, IsEnum h e it ((i : Nat) : Int) old) ∧ h.IsTupleIter it a i ∧ e ≠ it ∧ a ≠ it ∧ e ≠ a) where
  mem := by simp
  obj := fun i h st b hb => by
    obtain ⟨⟨old, he⟩, ⟨o, ho, hc, hd⟩, _⟩ := st
    have e' : b = e ∨ b = it := by simpa using hb
    rcases e' with z | z
    · rw [z]; exact ⟨_, he, fun v q => nomatch q⟩
    · rw [z]; exact ⟨o, ho, fun v q => by rw [hd] at q; cases q⟩
  keep := fun i h h' st k => let ⟨⟨old, he⟩, hi, hne⟩ := st; ⟨⟨old, k e (by simp) _ he⟩, hi.at fun o q => k it (by simp) o q, hne⟩
  item := by
    intro X hP hw hK hc i pins s σ H E I hf st hg
    subst hP hw hK
    obtain ⟨⟨old, he⟩, hit, hne, hai, hea⟩ := st
    obtain ⟨xs, x, hq, hx⟩ := hg
    obtain ⟨its, rv, p, hz⟩ := I.tuple hq
    obtain ⟨u, hu, ru⟩ := rv.get hx
    have hel : e < s.heap.objs.size := Heap.lt_size he
    have hil : it < s.heap.objs.size := by obtain ⟨_, q, _⟩ := hit; exact Heap.lt_size q
    have hh : X.A.in1.handled = none := I.ok.hd hc
    refine wpAny_pyNext_enum_itemC (Draws.tuple hh it a hai its.toArray) he ⟨hit, p⟩ (by simpa using (List.getElem?_eq_some_iff.mp hu).1) hne (by simp [hne, hea]) fun x' h' tk hx' ho hit' hT hsz hk => ?_
    have ex' : x' = u := by
      have q1 : its.toArray[i]? = some x' := hx'
      have q2 : its.toArray[i]? = some u := by simpa using hu
      rw [q2] at q1; cases q1; rfl
    subst ex'
    refine ⟨_, rfl, wpAny_letOwnedTupleGo_enum (s := { s with heap := h', toks := tk + 1 }) ho fun h'' he' sb => ?_⟩
    have hT2 : h''.get? s.heap.objs.size = some { cls := .type "tuple", data := .seq #[.int i tk, x'] } := (sb.2 _ (Nat.ne_of_gt hel)).trans hT
    have new : ObjOk X.prog X.w (upd H s.heap.objs.size (.tup [.int (i : Nat), x])) h'' s.heap.objs.size (.tup [.int (i : Nat), x]) :=
      ⟨by show 2 ≤ sizeLine; decide, [.int i tk, x'], .cons ⟨_, rfl⟩ (.cons ru .nil), ⟨_, hT2, rfl, _, rfl⟩⟩
    have I1 : Inv X pins σ (upd H s.heap.objs.size (.tup [.int (i : Nat), x])) { s with heap := h'', toks := tk + 1 } :=
      I.turnedNew (ch := [e, it]) (fun b ob hb q => (sb.2 b (fun z => hb (by simp [z]))).trans (hk b ob (fun z => hb (by simp [z])) (fun z => hb (by simp [z])) q)) hf (Nat.le_refl _) new
    refine ⟨.ref s.heap.objs.size, _, I1, rfl, ⟨_, x, rfl, I.hok.fresh (Nat.le_refl _), rfl, fun ys hy => by rw [I.tuple_inj hy hq]; exact hx⟩, ⟨⟨x', ?_⟩, hit'.1.at fun o q => (sb.2 it (Ne.symm hne)).trans q, hne, hai, hea⟩, fun b hb => ?_⟩
    · have e1 : ((i + 1 : Nat) : Int) = (i : Int) + 1 := by omega
      rw [e1]; exact he'
    · have hb' : b < s.heap.objs.size := by
        have e' : b = e ∨ b = it := by simpa using hb
        rcases e' with z | z
        · rw [z]; exact hel
        · rw [z]; exact hil
      rw [upd_ne (Nat.ne_of_lt hb')]
      exact (hf b hb).1
  done := by
    intro X hP hw hK hc i pins s σ H E I hf st hg
    subst hP hw hK
    obtain ⟨⟨old, he⟩, hit, hne, hai, hea⟩ := st
    obtain ⟨xs, hq, hx⟩ := hg
    obtain ⟨its, rv, p, hz⟩ := I.tuple hq
    have hl := rv.length
    obtain ⟨f0, f1, f2, f3, f4, f5⟩ := hf it (by simp)
    have hT : s.TypeIs (.ref e) "enumerate" := ⟨_, he, rfl⟩
    have hh : X.A.in1.handled = none := I.ok.hd hc
    unfold pyNext
    refine wpAny_bind (wpAny_attempt (wpAny_callSpecial?_slot (name := Str.ofString "__next__") hT F.slot_enumerate_next
      (wpAny_call_entry F.slot_enumerate_next hT F.entry_enumerate_next ?_ (F.args_enumerate_next_1 _))))
    show wpAny _ _ (field (.ref e) 2 >>= _) _ _ _
    refine wpAny_bind (wpAny_field he rfl (x := .ref it) rfl ?_)
    refine wpAny_bind (wpAny_nextOf_tuple_end hh hit p (by simp; omega) fun h' x he' hx' => ?_)
    obtain ⟨o, ho, hc⟩ := hx'
    refine wpAny_bind (wpAny_isInstance (T := "StopIteration") (b := true) ⟨o, ho, hc⟩ isSubtype_stop ?_)
    exact wpAny_pure ⟨rfl, I.turned (t' := s.toks) (fun b o hb q => he' b o hb q) f0 f1 f3 f4 f5⟩
  self := fun A i s Q E st h => let ⟨⟨_, he⟩, _⟩ := st; wpAny_pyIter_enum he h
def iEnA (K : PySem.W.Frag) (ta : TA) : TI := fun σ H R => ta σ H fun vs H1 => ∃ a xs, vs = [.ref a] ∧ ((SqL K H1 a xs ∧ R (Ite K a) H1) ∨ (SqT K H1 a xs ∧ R (IteT K a) H1))
theorem pi_enA {X : Cx} {e : Expr} {ta : TA} {p pos tpos : Pos} {elts : List Expr} {kk : Nat} (hg : Gl X "enumerate") (hm : X.mg "enumerate" = none) (ha : PA X [e] ta) (hs : starEach [e] X.env = [(false, eval e X.env)] := by rfl) :
    PI X (.Tuple elts kk tpos) (.Call (.Name "enumerate" p) [e] [] pos) (iEnA X.K ta) := by
  refine ⟨fun pins s σ H R I h => ?_⟩
  refine Call_ (ld_blt I hg hm boot_enumerate (PyProof.Rows.callWith_type1 (thn (ha.run pos pins s σ H _ I h) fun us s1 ⟨vs, H1, I1, r1, q1⟩ => ?_) hs rfl))
  obtain ⟨a, xs, ex, q1⟩ := q1
  subst ex
  cases r1 with
  | cons r rr =>
    cases rr
    cases r
    have fr : ∀ b ∈ [s1.heap.objs.size + 1, s1.heap.objs.size], FpOk X pins H1 b := fun b hb => by
      have e' : b = s1.heap.objs.size + 1 ∨ b = s1.heap.objs.size := by simpa using hb
      have hle : s1.heap.objs.size ≤ b := by
        rcases e' with z | z
        · rw [z]; exact Nat.le_add_right _ _
        · rw [z]; exact Nat.le_refl _
      exact I1.fpOk hle (I1.hok.fresh hle)
    rcases q1 with ⟨hq, q⟩ | ⟨hq, q⟩
    · obtain ⟨its, rv, p', hz⟩ := I1.list hq
      refine call_enumerate_list p'.isList fun h' he hit hsz hk => wpAny_pyIter_enum he ?_
      have I2 : Inv X pins σ H1 { s1 with heap := h' } := I1.kept (t' := s1.toks) hk
      exact ⟨s1.heap.objs.size + 1, [s1.heap.objs.size + 1, s1.heap.objs.size], _, _, H1, rfl, I2, turn_enum a (s1.heap.objs.size + 1) s1.heap.objs.size, ⟨⟨.none, he⟩, hit, Nat.succ_ne_self _⟩, fr, q⟩
    · obtain ⟨its, rv, p', hz⟩ := I1.tuple hq
      obtain ⟨o, ho, _⟩ := id p'
      have hal : a < s1.heap.objs.size := Heap.lt_size ho
      refine call_enum1 (begins_tuple a its.toArray) p' fun h' he hit hsz hk => wpAny_pyIter_enum he ?_
      have I2 : Inv X pins σ H1 { s1 with heap := h' } := I1.kept (t' := s1.toks) hk
      exact ⟨s1.heap.objs.size + 1, [s1.heap.objs.size + 1, s1.heap.objs.size], _, _, H1, rfl, I2, turn_enumT a (s1.heap.objs.size + 1) s1.heap.objs.size, ⟨⟨.none, he⟩, ⟨_, hit, rfl, rfl⟩, Nat.succ_ne_self _, Nat.ne_of_lt hal, Nat.ne_of_gt (Nat.lt_succ_of_lt hal)⟩, fr, q⟩
theorem pi_enK {X : Cx} {K : PySem.W.Frag} {e : Expr} {ta : TA} {p pos tpos : Pos} {elts : List Expr} {kk : Nat} (hg : Gl X "enumerate") (hm : X.mg "enumerate" = none) (ha : PA X [e] ta) (hs : starEach [e] X.env = [(false, eval e X.env)] := by rfl) (hK : X.K = K := by rfl) :
    PI X (.Tuple elts kk tpos) (.Call (.Name "enumerate" p) [e] [] pos) (iEnA K ta) := by cases hK; exact pi_enA hg hm ha hs
open HD
/-- the items with their numbers -/
def enumF : Nat → List D → List D
  | _, [] => []
  | i, x :: xs => .tup [.int (i : Nat), x] :: enumF (i + 1) xs
def enumD (xs : List D) : List D := enumF 0 xs
theorem enumF_len : ∀ (i : Nat) (xs : List D), (enumF i xs).length = xs.length
  | _, [] => rfl
  | i, _ :: xs => by rw [enumF, List.length_cons, List.length_cons, enumF_len]
theorem enumF_at : ∀ {j : Nat} {xs : List D} {i : Nat} {d : D}, (enumF j xs)[i]? = some d → ∃ x, xs[i]? = some x ∧ d = .tup [.int ((j + i : Nat) : Int), x]
  | _, [], _, _, h => by cases h
  | j, x :: xs, 0, d, h => by cases h; exact ⟨x, rfl, rfl⟩
  | j, x :: xs, i + 1, d, h => by
    obtain ⟨y, e1, e2⟩ := enumF_at (j := j + 1) (xs := xs) (i := i) h
    exact ⟨y, e1, by rw [e2, show j + 1 + i = j + (i + 1) by omega]⟩
theorem enumD_len {xs : List D} : (enumD xs).length = xs.length := enumF_len _ _
theorem enumD_at {xs : List D} {i : Nat} {d : D} (h : (enumD xs)[i]? = some d) : ∃ x, xs[i]? = some x ∧ d = .tup [.int (i : Nat), x] := by
  obtain ⟨x, e1, e2⟩ := enumF_at h
  exact ⟨x, e1, by rw [e2, Nat.zero_add]⟩
section
variable {K : PySem.W.Frag} {c : Wd K} {ρ : List S} {n : Nat} {ds : List I}
theorem en_L {xs : List D} {σ : L2.St} {H : Hp} {x : V} {vs : List V} {F : It → Hp → Prop} (s2 : St c ρ n (.v (.lst xs) :: ds) σ H (x :: vs)) (k : ∀ J, (∀ ds vs, Wk c [.v (.lst xs)] ds [x] vs J (enumD xs)) → F J H) : ∃ a us, [x] = [V.ref a] ∧ ((SqL K H a us ∧ F (Ite K a) H) ∨ (SqT K H a us ∧ F (IteT K a) H)) := by
  have main : ∀ {ds : List I} {vs : List V} {ρ : List S} {n : Nat} {ex : List I} {σ : L2.St} {H : Hp} {ews : List V}, ews.length = ex.length → St c ρ n (ex ++ ([.v (.lst xs)] ++ ds)) σ H (ews ++ ([x] ++ vs)) → ∃ L B a us, x = .ref a ∧ StX c L B ρ n (ex ++ ([.v (.lst xs)] ++ ds)) σ H (ews ++ ([x] ++ vs)) ∧ H a = some (.lst us) ∧ RA K c.g (Mo c (L ++ B)) H us xs := by
    intro ds vs ρ n ex σ H ews hl ⟨L, B, s⟩
    have r1 := s.peek (d := .lst xs) (w := x) hl
    cases r1 with
    | lst _ h1 q1 => exact ⟨L, B, _, _, rfl, s, h1, q1⟩
  obtain ⟨_, _, a, us, rfl, _, ha, _⟩ := main (ex := []) (ews := []) rfl s2
  refine ⟨a, us, rfl, .inl ⟨SqL.of ha, k _ fun ds vs => ⟨?_, ?_, ?_⟩⟩⟩
  · intro i ρ n ex σ H ews hi hl s
    obtain ⟨L, B, a', us, e1, s, ha, r1⟩ := main hl s
    cases e1
    rw [enumD_len] at hi
    have h1 : i < us.length := by rw [r1.len]; omega
    exact ⟨us, us[i], SqL.of ha, List.getElem?_eq_getElem h1⟩
  · intro i d ρ n ex σ H ews z H2 hd hl s ⟨T, u, e1, e2, e3, e4⟩
    obtain ⟨L, B, a', us, f1, s, ha, r1⟩ := main hl s
    cases f1
    subst e1 e3
    obtain ⟨dx, g1, rfl⟩ := enumD_at hd
    obtain ⟨u', hu, ru⟩ := r1.at g1
    have := e4 us (SqL.of ha); rw [hu] at this; cases this
    exact ⟨L, B, s.pushT e2 (.cons (.int _) (.cons ru .nil))⟩
  · intro ρ n ex σ H ews hl s
    obtain ⟨L, B, a', us, e1, s, ha, r1⟩ := main hl s
    cases e1
    refine ⟨us, SqL.of ha, ?_⟩
    rw [enumD_len, r1.len]
    exact Nat.le_refl _
theorem en_T {xs : List D} {σ : L2.St} {H : Hp} {x : V} {vs : List V} {F : It → Hp → Prop} (s2 : St c ρ n (.v (.tup xs) :: ds) σ H (x :: vs)) (k : ∀ J, (∀ ds vs, Wk c [.v (.tup xs)] ds [x] vs J (enumD xs)) → F J H) : ∃ a us, [x] = [V.ref a] ∧ ((SqL K H a us ∧ F (Ite K a) H) ∨ (SqT K H a us ∧ F (IteT K a) H)) := by
  have main : ∀ {ds : List I} {vs : List V} {ρ : List S} {n : Nat} {ex : List I} {σ : L2.St} {H : Hp} {ews : List V}, ews.length = ex.length → St c ρ n (ex ++ ([.v (.tup xs)] ++ ds)) σ H (ews ++ ([x] ++ vs)) → ∃ L B a us, x = .ref a ∧ StX c L B ρ n (ex ++ ([.v (.tup xs)] ++ ds)) σ H (ews ++ ([x] ++ vs)) ∧ SqT K H a us ∧ RA K c.g (Mo c (L ++ B)) H us xs := by
    intro ds vs ρ n ex σ H ews hl ⟨L, B, s⟩
    have r1 := s.peek (d := .tup xs) (w := x) hl
    cases r1 with
    | tup h1 q1 => exact ⟨L, B, _, _, rfl, s, h1.sqt, q1⟩
  obtain ⟨_, _, a, us, rfl, _, ha, _⟩ := main (ex := []) (ews := []) rfl s2
  refine ⟨a, us, rfl, .inr ⟨ha, k _ fun ds vs => ⟨?_, ?_, ?_⟩⟩⟩
  · intro i ρ n ex σ H ews hi hl s
    obtain ⟨L, B, a', us, e1, s, ha, r1⟩ := main hl s
    cases e1
    rw [enumD_len] at hi
    have h1 : i < us.length := by rw [r1.len]; omega
    exact ⟨us, us[i], ha, List.getElem?_eq_getElem h1⟩
  · intro i d ρ n ex σ H ews z H2 hd hl s ⟨T, u, e1, e2, e3, e4⟩
    obtain ⟨L, B, a', us, f1, s, ha, r1⟩ := main hl s
    cases f1
    subst e1 e3
    obtain ⟨dx, g1, rfl⟩ := enumD_at hd
    obtain ⟨u', hu, ru⟩ := r1.at g1
    have := e4 us ha; rw [hu] at this; cases this
    exact ⟨L, B, s.pushT e2 (.cons (.int _) (.cons ru .nil))⟩
  · intro ρ n ex σ H ews hl s
    obtain ⟨L, B, a', us, e1, s, ha, r1⟩ := main hl s
    cases e1
    refine ⟨us, ha, ?_⟩
    rw [enumD_len, r1.len]
    exact Nat.le_refl _
/-- enumerate of a list or a tuple -/
theorem ien_ {ta : TA} {Q : List I → List D → QS} (h : GA c ρ n ds ta fun its ρ' n' => ∃ it xs, its = [it] ∧ it.seq = some xs ∧ Q [.v it.val] (enumD xs) (frz1 ρ' it) n') : GI c ρ n ds (iEnA K ta) Q := fun σ H vs F s k =>
  h σ H vs _ s fun its ρ' n' ws H' ⟨it, xs, e, es, q⟩ hl s1 => by
    subst e
    match ws, hl with
    | [x], _ =>
    have s2 := St.frz1 (ds := ds) s1
    have es' : it.val.seq = some xs := es
    generalize it.val = d at s2 es' q
    cases d with
    | lst ys => cases es'; exact en_L (c := c) (ρ := frz1 ρ' it) (n := n') s2 fun J wk => k [.v (.lst xs)] _ _ n' [x] J H' q rfl s2 wk
    | tup ys => cases es'; exact en_T (c := c) (ρ := frz1 ρ' it) (n := n') s2 fun J wk => k [.v (.tup xs)] _ _ n' [x] J H' q rfl s2 wk
    | _ => cases es'
theorem exen_ {it : I} {xs : List D} {P : I → List D → Prop} (e : it.seq = some xs) (h : P it xs) : ∃ it' xs', [it] = [it'] ∧ it'.seq = some xs' ∧ P it' xs' := ⟨it, xs, rfl, e, h⟩
end
end HW
/-! sorted of lists of data; an empty tuple may stand first -/
namespace PySem.W
open PySem PySem.Calls PyProof.Rows PySem.SeqAt
/-- all are tuples, the first one empty -/
def FirstE (ds : List PyData) : Prop := (∃ r, ds = .tuple [] :: r) ∧ ∀ d, d ∈ ds → ∃ xs, d = .tuple xs
section
variable {prog : Program} {w : World} {A : Around} {E : Value → Shared → Prop} {s : Shared}
theorem call_tuple_lt {Q : Value → Shared → Prop} {l b : Addr} {items items2 : Array Value} {e r : Nat → Bool} (hl : s.heap.IsTuple l items) (hb : s.heap.IsTuple b items2)
    (he : ∀ j (h1 : j < items.size) (h2 : j < items2.size), EqAt A.in1 s items[j] items2[j] (e j)) (hr : ∀ j (h1 : j < items.size) (h2 : j < items2.size), e j = false → RcLt A.in1 s items[j] items2[j] (r j))
    (h : Q (.bool (firstLt e r (decide (items.size < items2.size)) (List.range (min items.size items2.size)))) s) : wpAny (model prog w) A (call (.builtin "tuple.__lt__") [.ref l, .ref b]) Q E s := by
  obtain ⟨⟨cls, dd, data, sl⟩, ho, hc, n, hd⟩ := id hl
  obtain ⟨⟨cls2, dd2, data2, sl2⟩, ho2, hc2, n2, hd2⟩ := id hb
  simp only at hc hd hc2 hd2
  subst hc hd hc2 hd2
  exact call_meets F.slot_tuple_lt ⟨_, ho, rfl⟩ F.entry_tuple_lt (F.args_tuple_lt_2 _ _) (tuple_ltAt l b items items2 n n2 dd dd2 sl sl2 e r) ⟨ho, ho2, he, hr, h⟩
theorem oneLt_tups {xs ys : List PyData} {a b : Value} {as bs : List Addr} {Q : Bool → Shared → Prop} (ra : Reads s.heap a (.tuple xs) as) (rb : Reads s.heap b (.tuple ys) bs) (hal : alikeAll xs ys = true)
    (hu : A.units + min (PyData.depth (.tuple xs)) (PyData.depth (.tuple ys)) < cLine) (hq : Q (dataLt (.tuple xs) (.tuple ys)) s) : wpAny (model prog w) A (oneLt' true a b) Q E s := by
  cases ra with
  | @tuple l o vs n _ as₁ h1 h2 h3 h4 =>
    cases rb with
    | @tuple l' o' vs' n' _ bs₁ k1 k2 k3 k4 =>
      have n1 : vs.size = xs.length := by simpa using ReadsAll.length _ _ _ h4
      have n2 : vs'.size = ys.length := by simpa using ReadsAll.length _ _ _ k4
      rw [dataLt_tuple, ← firstLt_toks xs ys hal, ← n1, ← n2] at hq
      rw [oneLt'_eq]
      simp only [if_true]
      refine wpAny_bind (wpAny_cRoomFor (room_here hu) ?_)
      refine wpAny_bind (wpAny_callSpecialIfBound?_slot (T := "tuple") ⟨_, h1, h2⟩ F.slot_tuple_lt (call_tuple_lt (e := pairEq xs ys) (r := fun j => dataLt (xs.getD j .none) (ys.getD j .none)) ⟨_, h1, h2, _, h3⟩ ⟨_, k1, k2, _, k3⟩ (fun j j1 j2 => ?_) (fun j j1 j2 hj => ?_) ?_))
      · have := eqAt_alikeAll xs ys A.in1 s vs.toList vs'.toList _ _ h4 k4 hal (room_in hu) j (by simpa using j1) (by simpa using j2)
        simpa using this
      · have := rcLt_alikeAll xs ys A.in1 s vs.toList vs'.toList _ _ h4 k4 hal (room_in hu) j (by simpa using j1) (by simpa using j2) hj
        simpa using this
      · exact wpAny_truthy_bool hq
/-- the first items of tuples, asked one by one -/
theorem firsts_ask : ∀ {vs : List Value} {ds : List PyData} {Q : List (Option Value) → Shared → Prop}, EachIs (fun v d => ∃ as, Reads s.heap v d as) vs ds → (∀ d, d ∈ ds → ∃ xs, d = .tuple xs) →
    (∀ fs, EachIs (fun f d => d = PyData.tuple [] → f = none) fs ds → Q fs s) → wpAny (model prog w) A (vs.mapM firstOfTuple') Q E s
  | _, _, _, .nil, _, h => by rw [List.mapM_nil]; exact wpAny_pure (h [] .nil)
  | _, _, Q, .cons (a := v) (b := d) (as := vs) (bs := ds) ⟨as, r⟩ t, ht, h => by
    rw [List.mapM_cons]
    obtain ⟨xs, rfl⟩ := ht d (List.mem_cons_self ..)
    have rest : ∀ f, (PyData.tuple xs = PyData.tuple [] → f = none) → wpAny (model prog w) A (do let bs ← vs.mapM firstOfTuple'; pure (f :: bs)) Q E s := fun f hf =>
      wpAny_bind (firsts_ask (Q := fun bs s' => wpAny (model prog w) A (pure (f :: bs)) Q E s') t (fun d hd => ht d (List.mem_cons_of_mem _ hd)) fun fs hfs => wpAny_pure (h (f :: fs) (.cons hf hfs)))
    rw [kas_first_eq]
    refine wpAny_bind (wpAny_bind ((looks_reads r).here ?_))
    have e : ((dataType (PyData.tuple xs)) != Value.type "tuple") = false := by simp [dataType]
    rw [e]
    simp only [Bool.false_eq_true, if_false]
    cases r with
    | @tuple l o ws n _ as₁ h1 h2 h3 h4 =>
      refine wpAny_bind (wpAny_listItems (o := o) h1 h3 (wpAny_pure (rest _ fun e => ?_)))
      cases e
      have n1 : ws.size = 0 := by simpa using ReadsAll.length _ _ _ h4
      rw [Array.getElem?_eq_none (by omega)]
theorem kind_firstE {vs : List Value} {ds : List PyData} {Q : SortKind → Shared → Prop} (e : EachIs (fun v d => ∃ as, Reads s.heap v d as) vs ds) (hf : FirstE ds) (h : Q oneType' s) : wpAny (model prog w) A (keyKind' vs.toArray) Q E s := by
  obtain ⟨⟨r, rfl⟩, ht⟩ := hf
  rw [keyKind'_eq, List.mapM_toArray, map_eq_pure_bind]
  refine wpAny_bind (wpAny_bind (firsts_ask e ht fun fs hfs => wpAny_pure ?_))
  obtain ⟨f, fr, rfl⟩ : ∃ f fr, fs = f :: fr := by cases hfs; exact ⟨_, _, rfl⟩
  obtain rfl : f = none := by cases hfs with | cons a _ => exact a rfl
  have hall : (((none : Option Value) :: fr).toArray.all fun x => x.isSome) = false := by simp
  rw [hall]
  simp only [Bool.false_eq_true, if_false]
  have h0 : (((none : Option Value) :: fr).toArray[0]?.bind id).isSome = false := by simp
  rw [if_neg (by rw [h0]; exact Bool.false_ne_true)]
  have hT : ∀ v ∈ vs, Looks (model prog w) s.heap (typeOf v) (.type "tuple") := fun v hv => by
    obtain ⟨d, hd, as, rd⟩ := e.left v hv
    obtain ⟨xs, rfl⟩ := ht d hd
    exact looks_reads rd
  have hne : ∃ v₁ rest, vs = v₁ :: rest := by cases e; exact ⟨_, _, rfl⟩
  obtain ⟨v₁, rest, rfl⟩ := hne
  rw [oneTypeOnly'_eq, List.mapM_toArray, map_eq_pure_bind]
  refine wpAny_bind (wpAny_bind (wpAny_bind (kas_mapM (r := Value.type "tuple") _ (fun v hv Q' hq => (hT v hv).here hq) (wpAny_pure ?_))))
  have hall : ((List.map (fun _ => Value.type "tuple") (v₁ :: rest)).toArray.all fun x => x == Value.type "tuple") = true := by
    simp only [List.all_toArray, List.all_map, List.all_eq_true]
    intro _ _
    exact beq_self_eq_true _
  have h0 : (List.map (fun _ => Value.type "tuple") (v₁ :: rest)).toArray[0]? = some (Value.type "tuple") := by simp
  rw [h0]
  simp only [hall, if_true]
  exact wpAny_pure (wpAny_pure h)
theorem SortsAt.firstE {vs : List Value} {ds : List PyData} (e : EachIs (fun v d => ∃ as, Reads s.heap v d as) vs ds) (hal : AllAlike ds) (hf : FirstE ds) (hu : ∀ d, d ∈ ds → A.units + d.depth < cLine) : SortsAt prog w A s (dataKind s.heap ds) vs := by
  refine ⟨fun v hv => ?_, oneType', ?_, fun _ E Q hq => kind_firstE e hf hq⟩
  · obtain ⟨d, hd, as, r⟩ := e.left v hv
    exact ⟨_, dataKind_some hal hd r⟩
  · intro E x y a b Q ha hb hq
    obtain ⟨d, as, hd, ra, rfl⟩ := dataKind_inv ha
    obtain ⟨d', as', hd', rb, rfl⟩ := dataKind_inv hb
    obtain ⟨xs, rfl⟩ := hf.2 d hd
    obtain ⟨ys, rfl⟩ := hf.2 d' hd'
    rw [keyLt'_oneType]
    exact oneLt_tups ra rb (by simpa [alike] using hal _ hd _ hd') (Nat.lt_of_le_of_lt (Nat.add_le_add_left (Nat.min_le_left _ _) _) (hu _ hd)) hq
end
section
variable {prog : Program} {w : World} {A : Around} {E : Value → Shared → Prop} {s : Shared} {β : Type} {vs : List Value} {bs : List β} {enc : β → PyData} {R : Value → β → Prop}
theorem sorted_dataE {l : Addr} {Q : Value → Shared → Prop} (hl : s.heap.IsList l vs.toArray) (e : EachIs R vs bs) (er : EachIs (fun v b => ∃ as, Reads s.heap v (enc b) as) vs bs) (hal : AllAlike (bs.map enc)) (hk : Sortable (bs.map enc) ∨ FirstE (bs.map enc)) (hL : bs.length ≤ sizeLine)
    (hu : ∀ b, b ∈ bs → A.units + 2 + (enc b).depth < cLine) (h : ∀ out, out.length = bs.length → EachIs R out (bs.mergeSort (dataLe false enc)) → Q (.ref (s.heap.objs.size + 1)) { s with heap := sortedAll s.heap vs (List.toArray out) }) :
    wpAny (model prog w) A (call (.builtin "sorted") [.ref l]) Q E s := by
  rcases hk with hk | hk
  · exact sorted_data hl e er hal hk hL hu h
  · have er' : EachIs (fun v b => ∃ as, Reads (sortingHeap (copyHeap s.heap vs) (s.heap.objs.size + 1) vs) v (enc b) as) vs bs := er.mono fun _ _ ⟨as, r⟩ => ⟨as, PyProof.Rows.Reads.keeps (fun _ _ => sorting_copy_old) r⟩
    exact sorted_vals hl (SortsAt.firstE (s := { s with heap := sortingHeap (copyHeap s.heap vs) (s.heap.objs.size + 1) vs }) (each_map (R := fun v d => ∃ as, Reads (sortingHeap (copyHeap s.heap vs) (s.heap.objs.size + 1) vs) v d as) enc er') hal hk (bound_map hu)) (by rw [e.length]; exact hL)
      (h _ (by rw [sortVals_length false rfl]; exact e.length) (sortVals_data false e er' hal))
end
end PySem.W
namespace HZ
open PySem PySem.Spec PyProof.Rows L2 HX
def rSortD (K : PySem.W.Frag) : List V → Hp → VK → Prop := fun vs H Q => ∃ (a : Addr) (bs : List (V × PyData)), vs = [.ref a] ∧ SqL K H a (bs.map (·.1)) ∧ (∀ b, b ∈ bs → Dp K H b.1 b.2) ∧ PySem.W.AllAlike (bs.map (·.2)) ∧ (PySem.W.Sortable (bs.map (·.2)) ∨ PySem.W.FirstE (bs.map (·.2))) ∧ (∀ b, b ∈ bs → b.2.depth ≤ 60) ∧
  ∀ p, H p = none → Q (.ref p) (upd H p (.lst ((bs.mergeSort (PySem.W.dataLe false (·.2))).map (·.1))))
theorem each_rel {R : Value → V → Prop} : ∀ {us : List Value} {bs : List (V × PyData)}, Vals (bs.map (·.1)) us → PySem.W.EachIs (fun u b => RelV b.1 u) us bs
  | _, [], r => by cases r; exact .nil
  | _, b :: bs, r => by cases r with | cons a t => exact .cons a (each_rel (R := R) t)
theorem vals_each : ∀ {us : List Value} {bs : List (V × PyData)}, PySem.W.EachIs (fun u b => RelV b.1 u) us bs → Vals (bs.map (·.1)) us
  | _, _, .nil => .nil
  | _, _, .cons a t => .cons a (vals_each t)
theorem each_and {α β : Type} {R S : α → β → Prop} : ∀ {as : List α} {bs : List β}, PySem.W.EachIs R as bs → (∀ a b, R a b → b ∈ bs → S a b) → PySem.W.EachIs S as bs
  | _, _, .nil, _ => .nil
  | _, _, .cons h t, k => .cons (k _ _ h (List.mem_cons_self ..)) (each_and t fun a b r m => k a b r (List.mem_cons_of_mem _ m))
theorem cr_sortD {X : Cx} {K : PySem.W.Frag} (hu : X.A.units + 64 < cLine) (hK : X.K = K := by rfl) : CallR X (.builtin "sorted") (rSortD K) := by
  cases hK
  intro pins s σ H vs us Q I r h
  obtain ⟨a, bs, rfl, hs, hd, hal, hk, hdep, q⟩ := h
  obtain ⟨its, rv, hl, hz⟩ := I.list hs
  rw [Vals.ref1 r]
  have er := each_rel (R := fun _ _ => True) rv
  have hlen : bs.length ≤ sizeLine := by rw [← er.length]; have := rv.length; rw [List.length_map] at this; rw [List.length_map] at hz; rw [← this]; exact hz
  refine PySem.W.sorted_dataE (R := fun u b => RelV b.1 u) (enc := (·.2)) hl.isList er (each_and er fun u b rb mb => Dp.reads I b.2 b.1 u (hd b mb) rb) hal hk hlen (fun b hb => by have := hdep b hb; omega) fun out ho hout => ?_
  obtain ⟨ep, he'⟩ := PyProof.Rows.sortedAll_at s.heap its out.toArray
  have rl := vals_each hout
  refine ⟨.ref _, upd H (s.heap.objs.size + 1) (.lst ((bs.mergeSort (PySem.W.dataLe false (·.2))).map (·.1))), I.laid (t' := s.toks) (fun _ _ => PyProof.Rows.sortedAll_old) (Nat.le_succ _) ⟨?_, out, ep, rl, he'⟩, rfl, q _ (I.hok.fresh (Nat.le_succ _))⟩
  rw [List.length_map, List.length_mergeSort]; exact hlen
end HZ
/-! starred displays, methods of own classes, constructors with defaults, lists of tuples sorted, bit lengths, membership among data -/
namespace HY
open PySem PySem.Spec PyProof.Rows L2 HX HD
/-! ### a promise by position out of a def with defaults -/
section
variable {P : Program} {w : World} {K : PySem.W.Frag} {mg : Str → Option Value} {base : Heap}
theorem fnr_ok {CX : CXT} {k : Nat} {f : Addr} {fd : FuncData} {ps : List Str} {sp : Sp} {ds : List Value} {dvs : List V} (F : FnOk P w K mg base CX k f fd ps sp) (hb : Binds K fd ps ds) (hd : Vals dvs ds) : FnR P w K mg base CX k f (fun vs H Q E => sp (vs ++ dvs) H Q E) := fun A outer s H us vs Q E hr e0 r hs => by
  have KX : K.In s.heap := e0.mod.kin.keeps fun b o e => (e0.bs b o e).1
  have rr : Vals (vs ++ dvs) (us ++ ds) := r.append hd
  have hl := F.len _ _ _ _ hs
  exact F.run A outer s H ⟨us, []⟩ (us ++ ds) (vs ++ dvs) Q E hr e0 (hb s us KX (by rw [← rr.length]; exact hl)) rr hs
theorem fnr_ok0 {CX : CXT} {k : Nat} {f : Addr} {fd : FuncData} {ps : List Str} {sp : Sp} (F : FnOk P w K mg base CX k f fd ps sp) (hb : Binds K fd ps []) : FnR P w K mg base CX k f sp := (fnr_ok (dvs := []) F hb .nil).imp fun vs H Q E h => by rw [List.append_nil]; exact h
end
/-- what an own class that is no paper must have -/
structure PB (K : PySem.W.Frag) (C : Addr) (nm : Str) : Prop where
  cl : Cls K C
  hc : HP.HasCls K C
  nm : HP.ClsNm K C nm
theorem PB.ty {K : PySem.W.Frag} {C : Addr} {nm : Str} (p : PB K C nm) {H : Hp} {a dx : Addr} {fs : List (Str × V)} (e : H a = some (.ins C dx fs)) : TyX K H (.ref a) (.ref C) :=
  .base (.ins e p.cl p.hc.at_ p.hc.sp p.hc.tk p.hc.ob)
section
variable {K : PySem.W.Frag} {c : Wd K} {ρ : List S} {n : Nat} {ds : List I} {L B : List Addr} {σ : L2.St} {H H' : Hp} {vs : List V} {v : V} {p : Addr} {Q : QI} {QA : List I → QS} {g : Addr} {M : Addr → Prop} {it : I}
theorem isiQ_ {it : I} {C E : Addr} {nm : Str} {fs : List (Str × D)} {b : Bool} (e : it.val = .ins C fs) (pc : PB K C nm) (hk : PySem.W.kitOne K (.ref C) (.ref E) = some b) (h : Q (.v (.bl b)) ρ n) : GB c ρ n ds (rIsi K) [it, .v (.glo E)] Q := fun σ H vs xs F hl ⟨L, B, s⟩ k => by
  match xs, hl with
  | [x, y], _ =>
  obtain ⟨L, B, s1⟩ := (St.rot (is := [.v (.glo E)]) (ws := [y]) rfl ⟨L, B, s⟩ : St c ρ n (.v (.glo E) :: it :: ds) σ H (y :: x :: vs))
  obtain ⟨B', lx, ly, s2, mv, hx, hy⟩ := s1.it2
  cases hy.r
  obtain ⟨a, dx, fv, rfl, ha, _⟩ := hx.ins s1.sl e
  exact ⟨.ref a, .ref E, .ref C, .ref E, b, rfl, .own E, pc.ty ha, hk, k _ _ _ _ _ h ⟨L, B', s2.pushR (.bl _)⟩⟩
/-! ### a star in a display -/
theorem St.rotB : ∀ {is js : List I} {ws us : List V} {ds : List I} {vs : List V}, ws.length = is.length → us.length = js.length → St c ρ n (is ++ (js ++ ds)) σ H (ws ++ (us ++ vs)) → St c ρ n (js ++ (is ++ ds)) σ H (us ++ (ws ++ vs))
  | is, [], ws, [], ds, vs, _, _, s => s
  | is, j :: js, ws, u :: us, ds, vs, hl, hm, s => by
    have s1 := St.rot' (is := is) (it := j) (ds := js ++ ds) (ws := ws) (v := u) (vs := us ++ vs) hl s
    have s2 : St c ρ n ((j :: is) ++ (js ++ ds)) σ H ((u :: ws) ++ (us ++ vs)) := s1
    have s3 := St.rotB (is := j :: is) (js := js) (ws := u :: ws) (us := us) (by simp [hl]) (by simpa using hm) s2
    -- js ++ (j :: is ++ ds): j sinks ahead
    exact St.rot' (is := js) (it := j) (ds := is ++ ds) (ws := us) (v := u) (vs := ws ++ vs) (by simpa using hm) s3
theorem star_ {te : TE} {t : TA} (h : GE c ρ n ds te fun it ρ1 n1 => ∃ xs, it.seq = some xs ∧ GA c ρ1 n1 (xs.map I.v ++ ds) t fun its ρ2 n2 => QA (xs.map I.v ++ its) ρ2 n2) : GA c ρ n ds (StX.tStar K te t) QA := fun σ H vs F s k =>
  h σ H vs _ s fun it ρ1 n1 x H1 ⟨xs, e, q⟩ ⟨L, B, s1⟩ => by
    obtain ⟨B', lx, s2, mv, hx⟩ := s1.it1
    obtain ⟨a, ws, rfl, hs, ra⟩ := hx.seq s1.sl e
    refine ⟨a, ws, rfl, hs.symm, ?_⟩
    have s3 := St.elems s2 (ra.mv mv)
    refine q σ H1 (ws ++ vs) _ ⟨L, B', s3⟩ fun its ρ2 n2 ys H2 q2 hl s4 => ?_
    have hw : ws.length = (xs.map I.v).length := by rw [ra.len, List.length_map]
    have s5 := St.rotB (is := its) (js := xs.map I.v) hl hw s4
    refine k _ ρ2 n2 _ H2 q2 (by rw [List.length_append, List.length_append, hl, hw]) ?_
    rw [List.append_assoc, List.append_assoc]
    exact s5
/-! ### a method of an own instance -/
theorem RF.none : ∀ {fv : List (Str × V)} {fs : List (Str × D)} {m : Str}, RF K g M H fv fs → fs.lookup m = none → fv.lookup m = none
  | _, _, _, .nil, _ => rfl
  | _, _, m, .cons (f := x) a b, e => by
    rw [List.lookup_cons] at e ⊢
    cases z : m == x with
    | true => rw [z] at e; cases e
    | false => rw [z] at e; exact RF.none b e
theorem meth_ {C : Addr} {m : Str} {sp : SpD} {ta : TE} {t : TA} (h : GE c ρ n ds ta fun it ρ1 n1 => ∃ fs, it.val = .ins C fs ∧ fs.lookup m = none ∧ GA c ρ1 n1 (it :: ds) t fun its ρ2 n2 => sp (.ins C fs :: its.map I.val) n2 (fun i n3 => Q i (frz (it :: its) ρ2) n3) fun _ _ _ => False) :
    GE c ρ n ds (tMethR C m (lift K sp) E0 ta t) Q := fun σ H vs F s k =>
  h σ H vs _ s fun it ρ1 n1 x H1 ⟨fs, e, hm, q⟩ s1 => by
    have s1' := s1
    obtain ⟨L, B, s1⟩ := s1
    obtain ⟨B', lx, s2, mv, hx⟩ := s1.it1
    obtain ⟨a, dx, fv, rfl, ha, rf⟩ := hx.ins s1.sl e
    refine ⟨a, dx, fv, rfl, ha, RF.none rf hm, ?_⟩
    refine q σ H1 (.ref a :: vs) _ s1' fun its ρ2 n2 ys H2 q2 hl s3 => ?_
    have s4 := St.rot' (is := its) (ws := ys) hl s3
    obtain ⟨L, B, s5, ra⟩ := items (is := it :: its) (ws := V.ref a :: ys) (by simp [hl]) s4
    refine ⟨⟨c.g, c.k, c.ns, Mo c (L ++ B), H2⟩, n2, _, _, _, ⟨rfl, s5.hat, .inl s5.mg, .inl s5.ml, s5.at, ra, fun it m v H2 q2 k2 h2 r2 => ?_, fun C fs n' x H' (z : False) => z.elim⟩, by rw [List.map_cons, e]; exact q2⟩
    cases it with
    | v d => exact k _ _ _ _ _ q2 ⟨L, B, (s5.kept k2 h2).pushR r2⟩
    | b _ _ => exact r2.elim
    | o ys =>
      obtain ⟨p, rfl, hp, np, rr⟩ := r2
      exact k _ _ _ _ _ q2 ⟨L, _, s5.ownNew k2 h2 hp rr⟩
/-! ### bit lengths -/
theorem bits_ {to : TE} (h : GE c ρ n ds to fun it ρ1 n1 => ∃ i : Int, it = .v (.int i) ∧ Q (.v (.int (Builtin.Int.intBits i : Nat))) ρ1 n1) : GE c ρ n ds (tBits to) Q := fun σ H vs F s k =>
  h σ H vs _ s fun it ρ1 n1 x H1 ⟨i, e, q⟩ s1 => by
    subst e
    obtain rfl := R.eInt s1.one
    exact ⟨i, rfl, k _ _ _ _ _ q (s1.pop.pushS rfl)⟩
/-! ### xs.pop(i) -/
theorem popAt_ {i : Nat} {d0 d : D} {xs : List D} {j : Int} {m : Nat} (hc : clean ds = true) (hi : ρ[i]? = some (.ow (.lst xs))) (hj : -(2 ^ 63) ≤ j ∧ j < 2 ^ 63) (hm : seqIndex? j xs.length = some m) (hd : xs[m]? = some d) (h : Q (.v d) (ρ.set i (.ow (.lst (xs.eraseIdx m)))) n) : GM c ρ n ds rPopAt (.b i d0) [.v (.int j)] Q := fun σ H vs x ys F hy ⟨L, B, s⟩ k => by
  match ys, hy with
  | [y], _ =>
  have hs := slotOf s
  obtain ⟨B', lx, ly, s2, mv, hx, hj2⟩ := StX.it2 (ix := .b i d0) (iy := .v (.int j)) s
  cases hj2.r
  obtain ⟨a, e1, ⟨ws, ha, ra⟩, w⟩ := s2.wrS hc hi
  rw [hs] at e1; cases e1
  obtain ⟨z, hz, rz⟩ := ra.at hd
  have rE : ∀ {M : Addr → Prop} {H : Hp} {ws : List V} {xs : List D} (m : Nat), RA K c.g M H ws xs → RA K c.g M H (ws.eraseIdx m) (xs.eraseIdx m) := fun {M H ws xs} m r => by
    rw [List.eraseIdx_eq_take_drop_succ, List.eraseIdx_eq_take_drop_succ]
    exact (r.take m).append (r.drop (m + 1))
  have s3 : StX c L B' (ρ.set i (.ow (.lst (xs.eraseIdx m)))) n ds σ (upd H a (.lst (ws.eraseIdx m))) vs := w fun mm => ⟨_, upd_same, (rE m ra).mv mm⟩
  have mo : Mv (Mo c (L ++ B')) (Mo c (L ++ B')) H (upd H a (.lst (ws.eraseIdx m))) := mv_own (by
    obtain ⟨L1, l, L2, x, f1, f2, f3, _⟩ := s2.sl.at hi
    rw [hs] at f2; cases f2
    cases f3
    rw [f1]; simp)
  exact ⟨a, ws, j, m, z, rfl, rfl, ha, hj.1, hj.2, by rw [ra.len]; exact hm, hz, k _ _ _ _ _ h ⟨L, B', s3.pushR (rz.mv mo)⟩⟩
/-! ### membership among data, in a list -/
theorem inD_ {ix iy : I} {xs : List D} (e : iy.val = .lst xs) (hx : ix.val.dat = true) (hy : D.dats xs = true) (sx : SeqAt.shaped ix.val.py = true) (sy : SeqAt.shaped (D.lst xs).py = true) (h : Q (.v (.bl ((D.pys xs).any fun z => PyData.eqv z ix.val.py))) ρ n) : GO c ρ n ds (rInD K) ix iy Q := fun σ H vs x y F ⟨L, B, s⟩ k => by
  obtain ⟨B', lx, ly, s2, mv, hx', hy'⟩ := s.it2
  have d1 := hx'.dpv s.sl hx
  have d2 := hy'.dpv s.sl (by rw [e, D.dat]; exact hy)
  rw [e, D.py] at d2
  rw [D.py] at sy
  exact ⟨_, _, d1, d2, sx, sy, k _ _ _ _ _ h ⟨L, B', s2.pushR (.bl _)⟩⟩
theorem niD_ {ix iy : I} {xs : List D} (e : iy.val = .lst xs) (hx : ix.val.dat = true) (hy : D.dats xs = true) (sx : SeqAt.shaped ix.val.py = true) (sy : SeqAt.shaped (D.lst xs).py = true) (h : Q (.v (.bl (!(D.pys xs).any fun z => PyData.eqv z ix.val.py))) ρ n) : GO c ρ n ds (rNotInD K) ix iy Q := fun σ H vs x y F ⟨L, B, s⟩ k => by
  obtain ⟨B', lx, ly, s2, mv, hx', hy'⟩ := s.it2
  have d1 := hx'.dpv s.sl hx
  have d2 := hy'.dpv s.sl (by rw [e, D.dat]; exact hy)
  rw [e, D.py] at d2
  rw [D.py] at sy
  exact ⟨_, _, d1, d2, sx, sy, k _ _ _ _ _ h ⟨L, B', s2.pushR (.bl _)⟩⟩
/-! ### sorted of data -/
def sortD (ds : List D) : List D := ds.mergeSort (PySem.W.dataLe false D.py)
theorem RA.mem : ∀ {ws : List V} {xs : List D}, RA K g M H ws xs → ∀ z ∈ ws.zip xs, R K g M H z.1 z.2
  | _, _, .nil, _, h => by cases h
  | _, _, .cons a b, z, h => by
    rcases List.mem_cons.mp h with rfl | h
    · exact a
    · exact RA.mem b z h
theorem RA.ofMem : ∀ {zs : List (V × D)}, (∀ z ∈ zs, R K g M H z.1 z.2) → RA K g M H (zs.map (·.1)) (zs.map (·.2))
  | [], _ => .nil
  | z :: zs, h => .cons (h z (List.mem_cons_self ..)) (RA.ofMem fun y hy => h y (List.mem_cons_of_mem _ hy))
theorem pys_map : ∀ xs : List D, D.pys xs = xs.map D.py
  | [] => rfl
  | x :: xs => by rw [D.pys, pys_map xs]; rfl
theorem dats_mem : ∀ {xs : List D}, D.dats xs = true → ∀ x ∈ xs, x.dat = true
  | [], _, _, h => by cases h
  | y :: ys, e, x, h => by
    rw [D.dats, Bool.and_eq_true] at e
    rcases List.mem_cons.mp h with rfl | h
    · exact e.1
    · exact dats_mem e.2 x h
theorem sortD_ {xs : List D} (e : it.val = .lst xs) (hd : D.dats xs = true) (hal : PySem.W.AllAlike (D.pys xs)) (hk : PySem.W.Sortable (D.pys xs) ∨ PySem.W.FirstE (D.pys xs)) (hdep : ∀ d ∈ D.pys xs, d.depth ≤ 60) (h : Q (.o (.lst (sortD xs))) ρ n) : GB c ρ n ds (HZ.rSortD K) [it] Q := gb1 fun σ H vs x F L B s k => by
  obtain ⟨B', lx, s2, mv, hx⟩ := s.it1
  obtain ⟨a, ws, rfl, ha, r⟩ := hx.ls s.sl e
  have hm := RA.mem (r.mv mv)
  have hl : (ws.zip xs).map (·.1) = ws := List.map_fst_zip (by rw [r.len]; exact Nat.le_refl _)
  have hl2 : (ws.zip xs).map (·.2) = xs := List.map_snd_zip (by rw [r.len]; exact Nat.le_refl _)
  let bs : List (V × PyData) := (ws.zip xs).map fun z => (z.1, z.2.py)
  have b1 : bs.map (·.1) = ws := by show ((ws.zip xs).map fun z => (z.1, z.2.py)).map (·.1) = ws; rw [List.map_map]; exact hl
  have b2 : bs.map (·.2) = D.pys xs := by
    show ((ws.zip xs).map fun z => (z.1, z.2.py)).map (·.2) = _
    rw [List.map_map, pys_map]
    have : ((fun x : V × PyData => x.2) ∘ fun z : V × D => (z.1, z.2.py)) = D.py ∘ fun z : V × D => z.2 := rfl
    rw [this, ← List.map_map, hl2]
  refine ⟨a, bs, rfl, by rw [b1]; exact SqL.of ha, fun b hb => ?_, by rw [b2]; exact hal, by rw [b2]; exact hk, fun b hb => hdep _ (by rw [← b2]; exact List.mem_map.mpr ⟨b, hb, rfl⟩), fun p hp => k _ _ _ _ _ h ⟨L, _, s2.pushO hp ?_⟩⟩
  · obtain ⟨z, hz, rfl⟩ := List.mem_map.mp hb
    exact (hm z hz).dp (dats_mem hd _ (List.of_mem_zip hz).2)
  · have e1 : ((ws.zip xs).mergeSort (fun p q => PySem.W.dataLe false D.py p.2 q.2)).map (fun z => (z.1, z.2.py)) = bs.mergeSort (PySem.W.dataLe false (·.2)) := PySem.W.sort_maps _ fun _ _ _ _ => rfl
    have e2 : ((ws.zip xs).mergeSort (fun p q => PySem.W.dataLe false D.py p.2 q.2)).map (·.2) = sortD xs := by
      rw [PySem.W.sort_maps (s := PySem.W.dataLe false D.py) (fun z : V × D => z.2) fun _ _ _ _ => rfl, hl2]; rfl
    rw [← e1, ← e2, List.map_map]
    exact RA.ofMem fun z hz => hm z ((List.mergeSort_perm _ _).mem_iff.mp hz)
theorem sortD_perm (xs : List D) : (sortD xs).Perm xs := List.mergeSort_perm _ _
end
/-! ### self.f as a target within a tuple of targets -/
def gFld (K : PySem.W.Frag) (ta : TE) (f : Str) : TG := fun v σ H Q => ta σ H fun x H2 => ∃ a C dx fs, x = .ref a ∧ H2 a = some (.ins C dx fs) ∧ Cls K C ∧ NoAttr K C f ∧ fs.length < 1000 ∧ Q σ (upd H2 a (.ins C dx (putF f v fs)))
theorem pg_fldK {X : Cx} {K : PySem.W.Frag} {o : Expr} {f : Str} {pos : Pos} {ta : TE} (ha : PE X o ta) (hK : X.K = K := by rfl) : PG X (.Attribute o f pos) (gFld K ta f) := by
  cases hK
  refine ⟨fun pins s σ H v u Q I r h => ?_⟩
  rw [assign_Attribute]
  refine wpAny_bind (wpAny_holding (thn (ha.run pins s σ H _ I h) fun ov s2 ⟨x, H2, I2, rx, a, C, dx, fs, ex, ea, c, n, l, q2⟩ => ?_))
  subst ex
  obtain rfl : ov = Value.ref a := rx
  refine wpAny_bind (wpAny_standAt (wpAny_bind (wpAny_holding (setattr_ok I2 ea c n l r fun s3 I3 => ?_))))
  exact wpAny_release ⟨σ, _, I3, q2⟩
section
variable {K : PySem.W.Frag} {c : Wd K} {ρ : List S} {n : Nat} {ds : List I}
theorem gfld_ {ta : TE} {f : Str} {it : I} {QG : QS} (h : GE c ρ n (it :: ds) ta fun io ρ2 n2 => SM K ds f it io ρ2 n2 QG) : GG c ρ n ds (gFld K ta f) it QG := fun σ H vs v F s k =>
  h σ H (v :: vs) _ s fun io ρ2 n2 x H2 ⟨i, d0, x0, C, fs, e, hc, hi, hC, hn, hl, q⟩ s2 => by
    subst e
    have s3 := St.frz1 (St.rot' (is := [.b i d0]) (ws := [x]) rfl s2)
    obtain ⟨L, B, s3⟩ := s3
    have hv := s3.val
    have hs : σ[i]? = some (some x) := slotOf s3
    obtain ⟨B', lx, ly, s4, mv, _, _⟩ := s3.it2
    obtain ⟨e1, ⟨dx, fv, ha, rf⟩, w⟩ := s4.wrM hc hi
    rw [hs] at e1; cases e1
    have := Nat.le_of_ble_eq_true hl
    have hlen := rf.len
    exact ⟨x0, C, dx, fv, rfl, ha, hC, hn, by omega, k _ _ _ _ q ⟨L, B', w fun m => ⟨dx, _, upd_same, (rf.put (hv.mv mv)).mv m⟩⟩⟩
end
theorem exseq_ {it : I} {xs : List D} {P : List D → Prop} (e : it.seq = some xs) (h : P xs) : ∃ xs', it.seq = some xs' ∧ P xs' := ⟨xs, e, h⟩
theorem exmeth_ {it : I} {C : Addr} {fs : List (Str × D)} {m : Str} {P : List (Str × D) → Prop} (e : it.val = .ins C fs) (hm : fs.lookup m = none) (h : P fs) : ∃ fs', it.val = .ins C fs' ∧ fs'.lookup m = none ∧ P fs' := ⟨fs, e, hm, h⟩
theorem exbits_ {i : Int} {P : Int → Prop} (h : P i) : ∃ j, I.v (.int i) = .v (.int j) ∧ P j := ⟨i, rfl, h⟩
/-! ### fixed values with instances in them -/
/-- of an own class that is no list and no tuple -/
def NoSq (K : PySem.W.Frag) (C : Addr) : Prop := (∃ nm, PB K C nm) ∧ PySem.W.kitOne K (.ref C) (.type "list") = some false ∧ PySem.W.kitOne K (.ref C) (.type "tuple") = some false
def okK (K : PySem.W.Frag) : Nat → D → Prop
  | 0, .lst _ => False
  | 0, .tup _ => False
  | m + 1, .lst xs => xs.length ≤ 100000 ∧ ∀ x, x ∈ xs → okK K m x
  | m + 1, .tup xs => xs.length ≤ 100000 ∧ ∀ x, x ∈ xs → okK K m x
  | _, .ins C _ => NoSq K C
  | _, d => d.tn.isSome = true
theorem okK_of {K : PySem.W.Frag} : ∀ {m : Nat} {d : D}, okF m d = true → okK K m d
  | 0, .lst _, h => by simp [okF] at h
  | 0, .tup _, h => by simp [okF] at h
  | m + 1, .lst xs, h => by
    rw [okF, Bool.and_eq_true, List.all_eq_true] at h
    exact ⟨Nat.le_of_ble_eq_true h.1, fun x hx => okK_of (h.2 x hx)⟩
  | m + 1, .tup xs, h => by
    rw [okF, Bool.and_eq_true, List.all_eq_true] at h
    exact ⟨Nat.le_of_ble_eq_true h.1, fun x hx => okK_of (h.2 x hx)⟩
  | 0, .ins C _, h => by simp [okF, D.tn] at h
  | m + 1, .ins C _, h => by simp [okF, D.tn] at h
  | 0, .non, h => h
  | 0, .bl _, h => h
  | 0, .int _, h => h
  | 0, .str _, h => h
  | 0, .ty _, h => h
  | 0, .glo _, h => h
  | 0, .hat, h => h
  | m + 1, .non, h => h
  | m + 1, .bl _, h => h
  | m + 1, .int _, h => h
  | m + 1, .str _, h => h
  | m + 1, .ty _, h => h
  | m + 1, .glo _, h => h
  | m + 1, .hat, h => h
def spd_fixedK (K : PySem.W.Frag) (m : Nat) (ds : List D) (n : Nat) (Q : I → Nat → Prop) (_ : XD) : Prop := ∃ d, ds = [d] ∧ okK K m d ∧ Q (.v d.fix) n
def spd_fixedKB (K : PySem.W.Frag) : Nat → SpD
  | 0 => fun _ _ _ _ => False
  | m + 1 => spd_fixedK K m
theorem liftK_false {K : PySem.W.Frag} : lift K (spd_fixedKB K 0) = fun _ _ _ _ => False := by
  funext vs H Q E
  exact propext ⟨fun ⟨_, _, _, _, _, _, h⟩ => h, False.elim⟩
def spi_PaperKB (K : PySem.W.Frag) (m : Nat) (ds : List D) (n : Nat) (Q : List (Str × D) → Nat → Prop) (_ : XD) : Prop := ∃ w xs, ds = [.str w, .tup xs] ∧ okK K m (.tup xs) ∧ Q [("word", .str w), ("parts", .tup (D.fixs xs))] n
def spi_PaperK (K : PySem.W.Frag) (m : Nat) (ds : List D) (n : Nat) (Q : List (Str × D) → Nat → Prop) (_ : XD) : Prop := ∃ w xs, ds = .str w :: xs ∧ okK K m (.tup xs) ∧ Q [("word", .str w), ("parts", .tup (D.fixs xs))] n
theorem starIK {K : PySem.W.Frag} {C : Addr} {m : Nat} : ∀ vs H Q E, liftI K C (spi_PaperK K m) vs H Q E → HC.starS ["self", "word"] (liftI K C (spi_PaperKB K m)) vs H Q E := by
  rintro vs H Q E ⟨c, n, x, dx, ws, ds, Qd, Ed, rfl, k, w, xs, rfl, ok, q⟩
  have ra := k.ra
  cases ra with
  | @cons v rest _ _ a b =>
  cases a
  refine ⟨[.ref x, .str w], rest, rfl, rfl, ?_, fun p hp => ?_⟩
  · rw [b.len]
    cases m with
    | zero => exact ok.elim
    | succ m => exact Nat.le_trans ok.1 (by decide)
  have sm : Same H (upd H p (.tup rest)) := HX.same_new hp
  have npx : p ≠ x := fun e => by rw [e, k.hx] at hp; cases hp
  have npm : ¬ c.M0 p := fun z => by obtain ⟨o, ho⟩ := k.md p z; rw [hp] at ho; cases ho
  refine ⟨⟨c.g, c.k, c.ns, c.M0, HD.del (upd H p (.tup rest)) x⟩, n, x, dx, [.str w, .ref p], _, Qd, Ed, rfl, ⟨rfl, sm _ _ k.hx, k.nx, k.hat.same sm, k.mg, k.ml, fun a ha => ?_, .cons (.str w) (.cons (.tup (.inl ⟨fun z => z.elim npm npx, upd_same⟩) (b.mv (mv_same sm))) .nil), fun fs m H' q2 k2 h2 r2 => k.q fs m H' q2 (fun b o nb hb => k2 b o nb ?_) h2 r2⟩, w, xs, rfl, ok, q⟩
  · obtain ⟨o, ho⟩ := k.md a ha
    exact ⟨o, sm a o ho⟩
  · rw [k.h0] at hb
    unfold HD.del at hb
    show (if b = x then none else (upd H p (.tup rest)) b) = some o
    split at hb
    · cases hb
    · rename_i nb2
      rw [if_neg nb2]
      exact sm b o hb
section
variable {K : PySem.W.Frag} {c : Wd K} {ρ : List S} {n : Nat} {ds : List I} {Q : QI}
theorem isiTN_ {it : I} {C : Addr} {fs : List (Str × D)} (e : it.val = .ins C fs) (ns : NoSq K C) (h : Q (.v (.bl false)) ρ n) : GB c ρ n ds (rIsiTU K) [it, .v (.tup [.ty "list", .ty "tuple"])] Q := fun σ H vs xs F hl ⟨L, B, s⟩ k => by
  match xs, hl with
  | [x, y], _ =>
  obtain ⟨L, B, s1⟩ := (St.rot (is := [.v (.tup [.ty "list", .ty "tuple"])]) (ws := [y]) rfl ⟨L, B, s⟩ : St c ρ n (.v (.tup [.ty "list", .ty "tuple"]) :: it :: ds) σ H (y :: x :: vs))
  obtain ⟨B', lx, ly, s2, mv, hx, hy⟩ := s1.it2
  obtain ⟨a, dx, fv, rfl, ha, _⟩ := hx.ins s1.sl e
  obtain ⟨⟨nm, pb⟩, k1, k2⟩ := ns
  exact isiU (pb.ty ha) hy.r rfl (HC.kitAny_two k1 k2) (k _ _ _ _ _ h ⟨L, B', s2.pushR (.bl _)⟩)
end
/-! ### terms -/
section
variable {X : Cx} {K : PySem.W.Frag}
theorem pa_starK {e : Expr} {es : List Expr} {p : Pos} {te : TE} {t : TA} (he : PE X e te) (hr : PA X es t) (hs : starEach (.Starred e p :: es) X.env = (true, eval e X.env) :: starEach es X.env := by rfl) (hK : X.K = K := by rfl) : PA X (.Starred e p :: es) (StX.tStar K te t) := by cases hK; exact StX.pa_star he hr hs
theorem op_inDK (hu : X.A.units + 65 < cLine) (hK : X.K = K := by rfl) : OpR X (compareOp .In) (rInD K) := by cases hK; exact op_inD hu
theorem op_niDK (hu : X.A.units + 65 < cLine) (hK : X.K = K := by rfl) : OpR X (compareOp .NotIn) (rNotInD K) := by cases hK; exact op_notInD hu
theorem units65 {A : Around} {k : Nat} (hr : Room k A) : A.units + 65 < cLine := by have := hr.un; omega
end
/-! ### integers by bits -/
theorem xor_nat (a b : Nat) : Builtin.bitXor (a : Int) (b : Int) = ((a ^^^ b : Nat) : Int) := by
  have key : ∀ n a b : Nat, a ≤ n → (a ^^^ b) + 2 * (a &&& b) = a + b := by
    intro n
    induction n with
    | zero => intro a b h; have : a = 0 := by omega
              subst this; simp
    | succ n ih =>
      intro a b h
      by_cases h0 : a = 0
      · subst h0; simp
      have h1 := ih (a / 2) (b / 2) (by omega)
      have d1 : (a ^^^ b) / 2 = (a / 2) ^^^ (b / 2) := Nat.xor_div_two
      have d2 : (a &&& b) / 2 = (a / 2) &&& (b / 2) := Nat.and_div_two
      have e3 : (a ^^^ b) % 2 = (a % 2 + b % 2) % 2 := by
        have t := Nat.testBit_xor a b 0
        simp only [Nat.testBit_zero] at t
        rcases Nat.mod_two_eq_zero_or_one a with x | x <;> rcases Nat.mod_two_eq_zero_or_one b with y | y <;> rcases Nat.mod_two_eq_zero_or_one (a ^^^ b) with z | z <;> rw [x, y, z] at t <;> rw [x, y, z] <;> revert t <;> decide
      have e4 : (a &&& b) % 2 = a % 2 * (b % 2) := by
        have t := Nat.testBit_and a b 0
        simp only [Nat.testBit_zero] at t
        rcases Nat.mod_two_eq_zero_or_one a with x | x <;> rcases Nat.mod_two_eq_zero_or_one b with y | y <;> rcases Nat.mod_two_eq_zero_or_one (a &&& b) with z | z <;> rw [x, y, z] at t <;> rw [x, y, z] <;> revert t <;> decide
      rcases Nat.mod_two_eq_zero_or_one a with x | x <;> rcases Nat.mod_two_eq_zero_or_one b with y | y <;> rw [x, y] at e3 e4 <;> omega
  have h := key a a b (Nat.le_refl _)
  rw [PyProof.Rows.bitXor_and, PySem.W.os_band]
  omega
theorem or_nat (a b : Nat) : Builtin.bitOr (a : Int) (b : Int) = ((a ||| b : Nat) : Int) := by
  have key : ∀ n a b : Nat, a ≤ n → (a ||| b) + (a &&& b) = a + b := by
    intro n
    induction n with
    | zero => intro a b h; have : a = 0 := by omega
              subst this; simp
    | succ n ih =>
      intro a b h
      by_cases h0 : a = 0
      · subst h0; simp
      have h1 := ih (a / 2) (b / 2) (by omega)
      have d1 : (a ||| b) / 2 = (a / 2) ||| (b / 2) := Nat.or_div_two
      have d2 : (a &&& b) / 2 = (a / 2) &&& (b / 2) := Nat.and_div_two
      have e3 : (a ||| b) % 2 = a % 2 + b % 2 - a % 2 * (b % 2) := by
        have t := Nat.testBit_or a b 0
        simp only [Nat.testBit_zero] at t
        rcases Nat.mod_two_eq_zero_or_one a with x | x <;> rcases Nat.mod_two_eq_zero_or_one b with y | y <;> rcases Nat.mod_two_eq_zero_or_one (a ||| b) with z | z <;> rw [x, y, z] at t <;> rw [x, y, z] <;> revert t <;> decide
      have e4 : (a &&& b) % 2 = a % 2 * (b % 2) := by
        have t := Nat.testBit_and a b 0
        simp only [Nat.testBit_zero] at t
        rcases Nat.mod_two_eq_zero_or_one a with x | x <;> rcases Nat.mod_two_eq_zero_or_one b with y | y <;> rcases Nat.mod_two_eq_zero_or_one (a &&& b) with z | z <;> rw [x, y, z] at t <;> rw [x, y, z] <;> revert t <;> decide
      rcases Nat.mod_two_eq_zero_or_one a with x | x <;> rcases Nat.mod_two_eq_zero_or_one b with y | y <;> rw [x, y] at e3 e4 <;> omega
  have h := key a a b (Nat.le_refl _)
  rw [PyProof.Rows.bitOr_and, PySem.W.os_band]
  omega
end HY
/-! set of a tuple of integers -/
namespace HQT
open PySem PySem.Spec PyProof.Rows L2 HX HQ
section
variable {P : Program} {w : World} {A : Around} {E : Value → Shared → Prop} {s : Shared}
theorem setOfIntsT {l : Addr} {zs : Array Value} (ms : List Int) {Q : Value → Shared → Prop} (calm : A.handled = none) (isl : s.heap.IsTuple l zs) (hin : IntsAre zs.toList ms) (few : ms.length + 1 < scanBound)
    (k : ∀ (h' : Heap) (tk m : Nat), SetR w h' s.heap.objs.size (fun j => decide (j ∈ ms)) m → m ≤ ms.length → (∀ b o, s.heap.get? b = some o → h'.get? b = some o) → Q (.ref s.heap.objs.size) { s with heap := h', toks := tk }) :
    wpAny (model P w) A (call (.type "set") [.ref l]) Q E s := by
  have size : zs.size = ms.length := by rw [← Array.length_toList]; exact IntsAre.length hin
  obtain ⟨_, _, hmro⟩ := F.called_set.mro
  have m1 := F.called_set.made
  have m2 := F.called_set.sub
  refine wpAny_call (codeAny_of_tree ?_)
  show wpAny _ _ (callAny (.type "set") _) _ _ _
  refine wpAny_pure ⟨Code.quiet_builtin _ (by decide +kernel), codeAny_builtin F.entry_type_call ?_⟩
  rw [Around.under_plain (weight_type_call_type "set" [.ref l] []) rfl]
  have m3 := F.called_set.notType
  have m4 := F.called_set.canCreate
  have m5 := F.typeCall_set_1 (.ref l)
  repeat (any_goals (first | assumption | wp_step))
  refine codeAny_mono (code_set_led1 (.ref l) (E := E) (Q₁ := fun o t => o = .ref s.heap.objs.size ∧ t = { s with heap := s.heap.push (emptySet w) }) ⟨rfl, rfl⟩) fun r t hr => ?_
  match r, hr with
  | .error e, hr => exact hr
  | .ok (.ret o), hr =>
    obtain ⟨rfl, rfl⟩ := hr
    generalize eS : s.heap.push (emptySet w) = G
    have atS : G.get? s.heap.objs.size = some (emptySet w) := by rw [← eS]; exact Heap.get?_push_size _ rfl
    have old : ∀ b o, s.heap.get? b = some o → G.get? b = some o := fun b o e => by rw [← eS]; exact Heap.get?_push_of_some _ e
    have szG : G.objs.size = s.heap.objs.size + 1 := by rw [← eS]; exact Heap.size_push ..
    have ty : Shared.TypeIs { s with heap := G } (.ref s.heap.objs.size) "set" := ⟨_, atS, rfl⟩
    have n1 := F.called_set.init.lookup
    have n2 := F.called_set.init.bind (.ref s.heap.objs.size)
    repeat (any_goals (first | assumption | wp_step))
    refine codeAny_mono (codeAny_call_builtin (R := wants (fun r t => r = .none ∧ ∃ h' tk m, t = { s with heap := h', toks := tk } ∧ SetR w h' s.heap.objs.size (fun j => decide (j ∈ ms)) m ∧ m ≤ ms.length ∧ (∀ b o, s.heap.get? b = some o → h'.get? b = some o)) E) F.called_set.init.plain F.entry_set_init (check_set_init_1 ty ?_)) fun r2 t2 hr2 => ?_
    · obtain ⟨⟨oc, od, ot, os⟩, e1, e2, nl, e3⟩ := isl
      simp only at e2 e3
      subst e2; subst e3
      have atL := old _ _ e1
      have u1 := F.sub_tuple_set
      have u2 := F.sub_tuple_frozenset
      have u3 : (Value.type "tuple" == Value.type "dict") = false := by decide
      have isG : G.IsTuple l zs := ⟨_, atL, rfl, nl, rfl⟩
      unfold Builtin.«set.__init__» noKeywords Builtin.Frozenset.updateFrom
      generalize hp : pyIter = p
      wp_walk
      subst hp
      refine wpAny_pyIter_tuple isG (wpAny_bind (wpAny_runValue ?_))
      have lt : l < s.heap.objs.size := Heap.lt_size e1
      have calm3 : A.in1.in1.in1.handled = none := by simp [calm]
      have ne : l ≠ G.objs.size := by rw [szG]; exact Nat.ne_of_lt (Nat.lt_succ_of_lt lt)
      have nin : s.heap.objs.size ∉ [G.objs.size, l] := by
        rw [szG]
        simp only [List.mem_cons, List.not_mem_nil, or_false, not_or]
        exact ⟨Nat.ne_of_lt (Nat.lt_succ_self _), Nat.ne_of_gt lt⟩
      refine set_update_ints ((Walks.tuple calm3 _ l ne zs).toS) s.heap.objs.size nin ms size few (fun i v hv => ?_) (zs.size - 0) 0 _ (by omega) (Nat.zero_le _) ⟨⟨_, Heap.get?_push_size _ rfl, rfl, rfl⟩, isG.push _⟩ ⟨0, Nat.le_refl 0, setR_new_at (Heap.get?_push_of_some _ atS)⟩ (fun t m hm hc hS => ?_)
      · have hi : i < ms.length := by rw [← size]; exact (Array.getElem?_eq_some_iff.mp hv).1
        obtain ⟨tk, e⟩ := PyProof.Rows.IntsAre.int_at hin i v (by rw [Array.getElem?_toList]; exact hv)
        refine ⟨ms[i], tk, List.getElem?_eq_getElem hi, ?_⟩
        rw [e, List.getD_eq_getElem?_getD, List.getElem?_eq_getElem hi] <;> rfl
      · obtain ⟨h', g2, d2, tk, os2⟩ := t
        obtain rfl : g2 = s.gens := hm.gens
        obtain rfl : d2 = s.drawn := hm.drawn
        obtain rfl : os2 = s.os := hm.os
        show wpAny _ _ _ _ _ _
        refine wpAny_pure ?_
        show wpAny _ _ (ret Value.none) _ _ _
        rw [size] at hc
        refine wpAny_pure ⟨rfl, h', tk, m, rfl, hS, hc, fun b o e => hm.heap b o ?_ (Heap.get?_push_of_some _ (old b o e))⟩
        have hb : b < s.heap.objs.size := Heap.lt_size e
        rw [szG]
        simp only [List.mem_cons, List.not_mem_nil, or_false, not_or]
        exact ⟨Nat.ne_of_lt hb, Nat.ne_of_lt (Nat.lt_succ_of_lt hb)⟩
    · match r2, hr2 with
      | .error e, hr2 => exact hr2
      | .ok (.ret r), hr2 =>
        obtain ⟨rfl, h', tk, m, rfl, a1, a2, a3⟩ := hr2
        repeat (any_goals (first | assumption | wp_step))
        exact k _ _ _ a1 a2 a3
      | .ok .next, hr2 => exact hr2.elim
      | .ok .brk, hr2 => exact hr2.elim
      | .ok .cont, hr2 => exact hr2.elim
  | .ok .next, hr => exact hr.elim
  | .ok .brk, hr => exact hr.elim
  | .ok .cont, hr => exact hr.elim
end
section
variable {X : Cx} {K : PySem.W.Frag}
/-- set of a list or a tuple of integers -/
def rSetA (K : PySem.W.Frag) (w : World) : List V → Hp → VK → Prop := fun xs H Q => ∃ (l : Addr) (ns : List Int), xs = [.ref l] ∧ (SqL K H l (ns.map V.int) ∨ SqT K H l (ns.map V.int)) ∧ ns.length < 1000 ∧ ∀ p m, H p = none → m ≤ ns.length → Q (.ref p) (upd H p (SetO w p (fun j => decide (j ∈ ns)) m))
theorem call_setA (hc : X.calm = true) (hK : X.K = K := by rfl) : CallR X (.type "set") (rSetA K X.w) := by
  cases hK
  intro pins s σ H xs us Q I r h
  obtain ⟨l, ns, rfl, hq, hl, q⟩ := h
  obtain rfl := Vals.ref1 r
  rcases hq with hq | hq
  · obtain ⟨its, rv, pl, hz⟩ := I.list hq
    refine HQ.setOfInts (I.ok.hd hc) pl.isList (ms := ns) (by simpa using rv.ints) (by unfold scanBound; omega) fun h' tk m hS hm hk => ?_
    exact ⟨.ref _, _, I.laid (t' := tk) hk (Nat.le_refl _) (setO_new hS), rfl, q _ m (I.hok.fresh (Nat.le_refl _)) hm⟩
  · obtain ⟨its, rv, pl, hz⟩ := I.tuple hq
    refine setOfIntsT (I.ok.hd hc) (show s.heap.IsTuple l its.toArray from pl) (ms := ns) (by simpa using rv.ints) (by unfold scanBound; omega) fun h' tk m hS hm hk => ?_
    exact ⟨.ref _, _, I.laid (t' := tk) hk (Nat.le_refl _) (setO_new hS), rfl, q _ m (I.hok.fresh (Nat.le_refl _)) hm⟩
end
section
open HD
variable {K : PySem.W.Frag} {c : Wd K} {ρ : List S} {n : Nat} {ds : List I} {Q : QI}
/-- sorted(set(e)), e a list or a tuple -/
theorem sortSetA_ {w : World} {te : TE} (h : GE c ρ n ds te fun it ρ' n' => ∃ ns : List Int, it.seq = some (ns.map D.int) ∧ ns.length < 64 ∧ ∀ ms : List Int, ms.Pairwise (· < ·) → (∀ k, k ∈ ms ↔ k ∈ ns) → ms.length ≤ ns.length → Q (.o (.lst (ms.map D.int))) ρ' n') :
    GE c ρ n ds (tCB (rSortedSet w) (tCons (tCB (rSetA K w) (tCons te tNil)) tNil)) Q := fun σ H vs F s k =>
  h σ H vs _ s fun it ρ' n' v H' ⟨ns, e, hl, q⟩ ⟨L, B, s'⟩ => by
    obtain ⟨B', lx, s2, mv, hx⟩ := s'.it1
    obtain ⟨a, ws, rfl, hs, ra⟩ := hx.seq s'.sl e
    obtain rfl := ra.ints
    refine ⟨a, ns, rfl, hs, by omega, fun p m hp hm => ?_⟩
    refine ⟨p, _, m, rfl, upd_same, by omega, fun ms r hs hm2 hln hr => ?_⟩
    have s3 := s2.same (HX.same_new (o := SetO w p (fun j => decide (j ∈ ns)) m) hp)
    exact k _ _ _ _ _ (q ms hs (fun k => (hm2 k).trans ⟨fun z => of_decide_eq_true z, fun z => decide_eq_true z⟩) (by omega)) ⟨L, _, s3.pushO hr (RA.ofInts ms)⟩
end
end HQT
/-! data without truths: == is equality, `in` is membership -/
namespace HS2
open PySem PySem.Spec PyProof.Rows L2 HX HD
/-- nothing but None, integers, texts, lists and tuples, at most k deep -/
def nob : Nat → D → Bool
  | _, .non => true
  | _, .int _ => true
  | _, .str x => PyData.strOk x
  | k + 1, .tup xs => xs.all (nob k)
  | k + 1, .lst xs => xs.all (nob k)
  | _, _ => false
theorem nob_tup {k : Nat} {xs : List D} : nob (k + 1) (.tup xs) = xs.all (nob k) := rfl
theorem nob_lst {k : Nat} {xs : List D} : nob (k + 1) (.lst xs) = xs.all (nob k) := rfl
theorem nob_int {k : Nat} {i : Int} : nob k (.int i) = true := by cases k <;> rfl
theorem nob_non {k : Nat} : nob k .non = true := by cases k <;> rfl
theorem nob_ints {k : Nat} (ns : List Int) : nob (k + 1) (.lst (ns.map D.int)) = true := by
  rw [nob_lst, List.all_map, List.all_eq_true]; intro x _; exact nob_int
theorem nob_intsT {k : Nat} (ns : List Int) : nob (k + 1) (.tup (ns.map D.int)) = true := by
  rw [nob_tup, List.all_map, List.all_eq_true]; intro x _; exact nob_int
theorem dats_of : ∀ {xs : List D}, (∀ x ∈ xs, x.dat = true) → D.dats xs = true
  | [], _ => rfl
  | x :: xs, h => by rw [D.dats, h x (List.mem_cons_self ..), dats_of fun y hy => h y (List.mem_cons_of_mem _ hy)]; rfl
theorem lays_of : ∀ {xs : List D}, (∀ x ∈ xs, x.py.canLay0 = true) → PyData.canLayAll0 (D.pys xs) = true
  | [], _ => rfl
  | x :: xs, h => by rw [D.pys, PyData.canLayAll0, h x (List.mem_cons_self ..), lays_of fun y hy => h y (List.mem_cons_of_mem _ hy)]; rfl
theorem deps_of {k : Nat} : ∀ {xs : List D}, (∀ x ∈ xs, x.py.depth ≤ k) → PyData.depthAll (D.pys xs) ≤ k
  | [], _ => Nat.zero_le _
  | x :: xs, h => by
    rw [D.pys, PyData.depthAll]
    exact Nat.max_le.mpr ⟨h x (List.mem_cons_self ..), deps_of fun y hy => h y (List.mem_cons_of_mem _ hy)⟩
theorem nob_ok : ∀ (k : Nat) (d : D), nob k d = true → d.dat = true ∧ d.py.canLay0 = true ∧ d.py.depth ≤ k
  | _, .non, _ => ⟨by simp [D.dat], by simp [D.py, PyData.canLay0], by simp [D.py, PyData.depth]⟩
  | _, .int _, _ => ⟨by simp [D.dat], by simp [D.py, PyData.canLay0], by simp [D.py, PyData.depth]⟩
  | k, .str x, h => by
    have h : PyData.strOk x = true := by cases k <;> exact h
    exact ⟨by simp [D.dat], by simpa [D.py, PyData.canLay0] using h, by simp [D.py, PyData.depth]⟩
  | 0, .tup _, h => by simp [nob] at h
  | 0, .lst _, h => by simp [nob] at h
  | k + 1, .tup xs, h => by
    rw [nob_tup, List.all_eq_true] at h
    refine ⟨by rw [D.dat]; exact dats_of fun x hx => (nob_ok k x (h x hx)).1, by rw [D.py, PyData.canLay0]; exact lays_of fun x hx => (nob_ok k x (h x hx)).2.1, ?_⟩
    rw [D.py, PyData.depth]
    exact Nat.succ_le_succ (deps_of fun x hx => (nob_ok k x (h x hx)).2.2)
  | k + 1, .lst xs, h => by
    rw [nob_lst, List.all_eq_true] at h
    refine ⟨by rw [D.dat]; exact dats_of fun x hx => (nob_ok k x (h x hx)).1, by rw [D.py, PyData.canLay0]; exact lays_of fun x hx => (nob_ok k x (h x hx)).2.1, ?_⟩
    rw [D.py, PyData.depth]
    exact Nat.succ_le_succ (deps_of fun x hx => (nob_ok k x (h x hx)).2.2)
  | 0, .bl _, h => by simp [nob] at h
  | 0, .ty _, h => by simp [nob] at h
  | 0, .glo _, h => by simp [nob] at h
  | 0, .hat, h => by simp [nob] at h
  | 0, .ins _ _, h => by simp [nob] at h
  | k + 1, .bl _, h => by simp [nob] at h
  | k + 1, .ty _, h => by simp [nob] at h
  | k + 1, .glo _, h => by simp [nob] at h
  | k + 1, .hat, h => by simp [nob] at h
  | k + 1, .ins _ _, h => by simp [nob] at h
theorem nob_shaped {k : Nat} {d : D} (h : nob k d = true) (hk : Nat.ble k 64 = true) : SeqAt.shaped d.py = true := by
  obtain ⟨_, h2, h3⟩ := nob_ok k d h
  unfold SeqAt.shaped
  rw [h2, decide_eq_true (Nat.le_trans h3 (Nat.le_of_ble_eq_true hk))]; rfl
theorem eqvs_nob {k : Nat} (ih : ∀ a b : D, ∀ j, nob k a = true → nob j b = true → (PyData.eqv a.py b.py = true ↔ a = b)) {j : Nat} : ∀ {xs ys : List D}, (∀ x ∈ xs, nob k x = true) → (∀ y ∈ ys, nob j y = true) → (PyData.eqvAll (D.pys xs) (D.pys ys) = true ↔ xs = ys)
  | [], [], _, _ => ⟨fun _ => rfl, fun _ => rfl⟩
  | [], y :: ys, _, _ => ⟨fun h => by simp [D.pys, PyData.eqvAll] at h, fun h => by cases h⟩
  | x :: xs, [], _, _ => ⟨fun h => by simp [D.pys, PyData.eqvAll] at h, fun h => by cases h⟩
  | x :: xs, y :: ys, h1, h2 => by
    rw [D.pys, D.pys, PyData.eqvAll, Bool.and_eq_true, ih x y j (h1 x (List.mem_cons_self ..)) (h2 y (List.mem_cons_self ..)), eqvs_nob ih (fun z hz => h1 z (List.mem_cons_of_mem _ hz)) fun z hz => h2 z (List.mem_cons_of_mem _ hz)]
    exact ⟨fun ⟨a, b⟩ => by rw [a, b], fun e => by cases e; exact ⟨rfl, rfl⟩⟩
theorem nob_cases {k : Nat} {d : D} (h : nob k d = true) : d = .non ∨ (∃ i, d = .int i) ∨ (∃ x, d = .str x) ∨ (∃ m xs, k = m + 1 ∧ d = .tup xs ∧ ∀ x ∈ xs, nob m x = true) ∨ ∃ m xs, k = m + 1 ∧ d = .lst xs ∧ ∀ x ∈ xs, nob m x = true := by
  cases k with
  | zero => cases d <;> first | exact .inl rfl | exact .inr (.inl ⟨_, rfl⟩) | exact .inr (.inr (.inl ⟨_, rfl⟩)) | (simp [nob] at h)
  | succ k => cases d <;> first | exact .inl rfl | exact .inr (.inl ⟨_, rfl⟩) | exact .inr (.inr (.inl ⟨_, rfl⟩)) | exact .inr (.inr (.inr (.inl ⟨k, _, rfl, rfl, by rw [nob_tup, List.all_eq_true] at h; exact h⟩))) | exact .inr (.inr (.inr (.inr ⟨k, _, rfl, rfl, by rw [nob_lst, List.all_eq_true] at h; exact h⟩))) | (simp [nob] at h)
theorem eqv_nob : ∀ (k : Nat) (a b : D) (j : Nat), nob k a = true → nob j b = true → (PyData.eqv a.py b.py = true ↔ a = b) := by
  intro k
  induction k with
  | zero =>
    intro a b j ha hb
    rcases nob_cases ha with rfl | ⟨i, rfl⟩ | ⟨x, rfl⟩ | ⟨m, xs, e, _⟩ | ⟨m, xs, e, _⟩ <;> first | (cases e; done) | skip
    all_goals (rcases nob_cases hb with rfl | ⟨i', rfl⟩ | ⟨x', rfl⟩ | ⟨m, ys, rfl, rfl, _⟩ | ⟨m, ys, rfl, rfl, _⟩ <;> simp [D.py, PyData.eqv])
  | succ k ih =>
    intro a b j ha hb
    rcases nob_cases ha with rfl | ⟨i, rfl⟩ | ⟨x, rfl⟩ | ⟨m, xs, e, rfl, h1⟩ | ⟨m, xs, e, rfl, h1⟩
    · rcases nob_cases hb with rfl | ⟨i', rfl⟩ | ⟨x', rfl⟩ | ⟨m, ys, rfl, rfl, _⟩ | ⟨m, ys, rfl, rfl, _⟩ <;> simp [D.py, PyData.eqv]
    · rcases nob_cases hb with rfl | ⟨i', rfl⟩ | ⟨x', rfl⟩ | ⟨m, ys, rfl, rfl, _⟩ | ⟨m, ys, rfl, rfl, _⟩ <;> simp [D.py, PyData.eqv]
    · rcases nob_cases hb with rfl | ⟨i', rfl⟩ | ⟨x', rfl⟩ | ⟨m, ys, rfl, rfl, _⟩ | ⟨m, ys, rfl, rfl, _⟩ <;> simp [D.py, PyData.eqv]
    · cases e
      rcases nob_cases hb with rfl | ⟨i', rfl⟩ | ⟨x', rfl⟩ | ⟨m, ys, rfl, rfl, h2⟩ | ⟨m, ys, rfl, rfl, h2⟩
      · simp [D.py, PyData.eqv]
      · simp [D.py, PyData.eqv]
      · simp [D.py, PyData.eqv]
      · rw [D.py, D.py, PyData.eqv, eqvs_nob ih h1 h2]; exact ⟨fun e => by rw [e], fun e => by cases e; rfl⟩
      · simp [D.py, PyData.eqv]
    · cases e
      rcases nob_cases hb with rfl | ⟨i', rfl⟩ | ⟨x', rfl⟩ | ⟨m, ys, rfl, rfl, h2⟩ | ⟨m, ys, rfl, rfl, h2⟩
      · simp [D.py, PyData.eqv]
      · simp [D.py, PyData.eqv]
      · simp [D.py, PyData.eqv]
      · simp [D.py, PyData.eqv]
      · rw [D.py, D.py, PyData.eqv, eqvs_nob ih h1 h2]; exact ⟨fun e => by rw [e], fun e => by cases e; rfl⟩
noncomputable def eqB (a b : D) : Bool := @decide (a = b) (Classical.propDecidable _)
noncomputable def inB (a : D) (xs : List D) : Bool := @decide (a ∈ xs) (Classical.propDecidable _)
theorem eqB_iff {a b : D} : eqB a b = true ↔ a = b := @decide_eq_true_iff _ (Classical.propDecidable _)
theorem inB_iff {a : D} {xs : List D} : inB a xs = true ↔ a ∈ xs := @decide_eq_true_iff _ (Classical.propDecidable _)
theorem eqB_eq {a b : D} {c : Prop} [Decidable c] (h : a = b ↔ c) : eqB a b = decide c := by
  cases e : eqB a b with
  | true => exact (decide_eq_true (h.mp (eqB_iff.mp e))).symm
  | false => exact (decide_eq_false fun z => by rw [eqB_iff.mpr (h.mpr z)] at e; cases e).symm
theorem inB_eq {a : D} {xs : List D} {c : Prop} [Decidable c] (h : a ∈ xs ↔ c) : inB a xs = decide c := by
  cases e : inB a xs with
  | true => exact (decide_eq_true (h.mp (inB_iff.mp e))).symm
  | false => exact (decide_eq_false fun z => by rw [inB_iff.mpr (h.mpr z)] at e; cases e).symm
theorem ints_inj : ∀ {xs ys : List Int}, xs.map D.int = ys.map D.int ↔ xs = ys
  | [], [] => ⟨fun _ => rfl, fun _ => rfl⟩
  | [], _ :: _ => ⟨fun h => (by cases h), fun h => (by cases h)⟩
  | _ :: _, [] => ⟨fun h => (by cases h), fun h => (by cases h)⟩
  | x :: xs, y :: ys => by
    rw [List.map_cons, List.map_cons]
    exact ⟨fun h => by injection h with h1 h2; injection h1 with h1; rw [h1, ints_inj.mp h2], fun h => by rw [(List.cons.inj h).1, (List.cons.inj h).2]⟩
theorem eqB_ints {xs ys : List Int} : eqB (.lst (xs.map D.int)) (.lst (ys.map D.int)) = decide (xs = ys) := eqB_eq ⟨fun h => by injection h with h; exact ints_inj.mp h, fun h => by rw [h]⟩
theorem eqB_intsT {xs ys : List Int} : eqB (.tup (xs.map D.int)) (.tup (ys.map D.int)) = decide (xs = ys) := eqB_eq ⟨fun h => by injection h with h; exact ints_inj.mp h, fun h => by rw [h]⟩
section
variable {K : PySem.W.Frag} {c : Wd K} {ρ : List S} {n : Nat} {ds : List I} {Q : QI}
theorem cmp_nob {k j : Nat} {a b : D} (ha : nob k a = true) (hb : nob j b = true) (hk : Nat.ble k 64 = true) (hj : Nat.ble j 64 = true) : D.cmp a b := ⟨(nob_ok _ _ ha).1, (nob_ok _ _ hb).1, nob_shaped ha hk, nob_shaped hb hj⟩
theorem eqv_B {k j : Nat} {a b : D} (ha : nob k a = true) (hb : nob j b = true) : PyData.eqv a.py b.py = eqB a b := by
  have h := eqv_nob k a b j ha hb
  cases e : eqB a b with
  | true => exact h.mpr (eqB_iff.mp e)
  | false =>
    cases z : PyData.eqv a.py b.py with
    | false => rfl
    | true => rw [eqB_iff.mpr (h.mp z)] at e; cases e
/-- == without truths; k, j: how deep -/
theorem eqN_ (k j : Nat) {ix iy : I} (ha : nob k ix.val = true) (hb : nob j iy.val = true) (hk : Nat.ble k 64 = true) (hj : Nat.ble j 64 = true) (h : Q (.v (.bl (eqB ix.val iy.val))) ρ n) : GO c ρ n ds (rEqU K) ix iy Q := eqD_ (cmp_nob ha hb hk hj) (by rw [D.eqv, eqv_B ha hb]; exact h)
theorem neN_ (k j : Nat) {ix iy : I} (ha : nob k ix.val = true) (hb : nob j iy.val = true) (hk : Nat.ble k 64 = true) (hj : Nat.ble j 64 = true) (h : Q (.v (.bl (!eqB ix.val iy.val))) ρ n) : GO c ρ n ds (rNeU K) ix iy Q := neD_ (cmp_nob ha hb hk hj) (by rw [D.eqv, eqv_B ha hb]; exact h)
theorem any_nob {k j : Nat} {a : D} (ha : nob k a = true) : ∀ {xs : List D}, (∀ x ∈ xs, nob j x = true) → ((D.pys xs).any fun z => PyData.eqv z a.py) = inB a xs
  | [], _ => (inB_eq (c := False) ⟨fun h => (by cases h), False.elim⟩).symm
  | x :: xs, h => by
    rw [D.pys, List.any_cons, any_nob ha fun y hy => h y (List.mem_cons_of_mem _ hy), eqv_B (h x (List.mem_cons_self ..)) ha]
    cases e : eqB x a with
    | true => rw [eqB_iff.mp e]; exact (inB_iff.mpr (List.mem_cons_self ..)).symm
    | false =>
      rw [Bool.false_or]
      cases e2 : inB a xs with
      | true => exact (inB_iff.mpr (List.mem_cons_of_mem _ (inB_iff.mp e2))).symm
      | false =>
        cases e3 : inB a (x :: xs) with
        | false => rfl
        | true =>
          rcases List.mem_cons.mp (inB_iff.mp e3) with z | z
          · rw [eqB_iff.mpr z.symm] at e; cases e
          · rw [inB_iff.mpr z] at e2; cases e2
theorem inN_ (k j : Nat) {ix iy : I} {xs : List D} (e : iy.val = .lst xs) (ha : nob k ix.val = true) (hb : ∀ x ∈ xs, nob j x = true) (hk : Nat.ble k 64 = true) (hj : Nat.ble (j + 1) 64 = true) (h : Q (.v (.bl (inB ix.val xs))) ρ n) : GO c ρ n ds (rInD K) ix iy Q := by
  have hl : nob (j + 1) (.lst xs) = true := by rw [nob_lst, List.all_eq_true]; exact hb
  exact HY.inD_ e (nob_ok _ _ ha).1 (dats_of fun x hx => (nob_ok _ _ (hb x hx)).1) (nob_shaped ha hk) (nob_shaped hl hj) (by rw [any_nob ha hb]; exact h)
theorem niN_ (k j : Nat) {ix iy : I} {xs : List D} (e : iy.val = .lst xs) (ha : nob k ix.val = true) (hb : ∀ x ∈ xs, nob j x = true) (hk : Nat.ble k 64 = true) (hj : Nat.ble (j + 1) 64 = true) (h : Q (.v (.bl (!inB ix.val xs))) ρ n) : GO c ρ n ds (rNotInD K) ix iy Q := by
  have hl : nob (j + 1) (.lst xs) = true := by rw [nob_lst, List.all_eq_true]; exact hb
  exact HY.niD_ e (nob_ok _ _ ha).1 (dats_of fun x hx => (nob_ok _ _ (hb x hx)).1) (nob_shaped ha hk) (nob_shaped hl hj) (by rw [any_nob ha hb]; exact h)
theorem inF_ints {i : Int} {ns : List Int} : inF (.int i) (ns.map D.int) = decide (i ∈ ns) := by
  unfold inF
  induction ns with
  | nil => rfl
  | cons x xs ih =>
    rw [List.map_cons, List.any_cons, ih]
    by_cases e : i = x
    · subst e; simp [eqF]
    · simp only [eqF, List.mem_cons, e, false_or]
      rw [show (x == i) = false from beq_false_of_ne fun z => e z.symm, Bool.false_or]
end
/-! ### lists or tuples -/
theorem seq_some {d : D} {xs : List D} (h : d.seq = some xs) : d = .lst xs ∨ d = .tup xs := by
  cases d with
  | lst ys => cases h; exact .inl rfl
  | tup ys => cases h; exact .inr rfl
  | _ => cases h
theorem seq_tn {d : D} {xs : List D} (h : d.seq = some xs) : d.tn.isSome = true := by
  rcases seq_some h with rfl | rfl <;> rfl
/-- for over a list or a tuple, as it comes -/
def iSeqU (K : PySem.W.Frag) (tl : TE) : TI := fun σ H R => tl σ H fun x H1 => ∃ a, x = .ref a ∧ (((∃ xs, SqL K H1 a xs) ∧ R (Itl K a) H1) ∨ ((∃ xs, SqT K H1 a xs) ∧ R (Itt K a) H1))
theorem pi_seqU {X : Cx} {K : PySem.W.Frag} {tg l : Expr} {tl : TE} (hl : PE X l tl) (hK : X.K = K := by rfl) : PI X tg l (iSeqU K tl) := by
  cases hK
  refine ⟨fun pins s σ H R I h => ?_⟩
  refine thn (hl.run pins s σ H _ I h) fun v s1 ⟨x, H1, I1, r1, q1⟩ => ?_
  obtain ⟨a, e, q1⟩ := q1
  subst e
  cases r1
  rcases q1 with ⟨⟨xs, hq⟩, q⟩ | ⟨⟨xs, hq⟩, q⟩
  · obtain ⟨its, rv, p, hz⟩ := I1.list hq
    refine wpAny_pyIter_list p.isList ?_
    refine ⟨s1.heap.objs.size, [s1.heap.objs.size], _, _, H1, rfl, I1.kept (t' := s1.toks) fun b o e => Heap.get?_push_of_some _ e, turn_list a _, ⟨_, Heap.get?_push_size _ rfl, rfl, rfl⟩, fun b hb => ?_, q⟩
    have e : b = s1.heap.objs.size := by simpa using hb
    subst e
    exact I1.fpOk (Nat.le_refl _) (I1.hok.fresh (Nat.le_refl _))
  · obtain ⟨its, rv, p, hz⟩ := I1.tuple hq
    refine wpAny_pyIter_tuple (show s1.heap.IsTuple a its.toArray from p) ?_
    refine ⟨s1.heap.objs.size, [s1.heap.objs.size], _, _, H1, rfl, I1.kept (t' := s1.toks) fun b o e => Heap.get?_push_of_some _ e, turn_tuple a _, ⟨_, Heap.get?_push_size _ rfl, rfl, rfl⟩, fun b hb => ?_, q⟩
    have e : b = s1.heap.objs.size := by simpa using hb
    subst e
    exact I1.fpOk (Nat.le_refl _) (I1.hok.fresh (Nat.le_refl _))
section
variable {K : PySem.W.Frag} {c : Wd K} {ρ : List S} {n : Nat} {ds : List I} {Q : QI} {QG : QS}
theorem isiSq_ {it : I} {xs : List D} (e : it.seq = some xs) (h : Q (.v (.bl true)) ρ n) : GB c ρ n ds (rIsiTU K) [it, .v (.tup [.ty "list", .ty "tuple"])] Q := by
  rcases seq_some (show it.val.seq = some xs from e) with z | z
  · exact isiTB_ (t := "list") (by rw [z]; rfl) rfl (sq_kit (d := .lst xs) rfl) h
  · exact isiTB_ (t := "tuple") (by rw [z]; rfl) rfl (sq_kit (d := .tup xs) rfl) h
theorem isiNq_ {it : I} {t : String} (e : it.val.tn = some t) (hs : isSq it.val = false) (h : Q (.v (.bl false)) ρ n) : GB c ρ n ds (rIsiTU K) [it, .v (.tup [.ty "list", .ty "tuple"])] Q := isiTB_ e rfl (by rw [sq_kit e, hs]) h
theorem sq_L {xs : List D} {σ : L2.St} {H' : Hp} {v : V} {vs : List V} {F : It → Hp → Prop} (s2 : St c ρ n (.v (.lst xs) :: ds) σ H' (v :: vs)) (k : ∀ J, (∀ ds vs, Wk c [.v (.lst xs)] ds [v] vs J xs) → F J H') : ∃ a, v = V.ref a ∧ (((∃ xs, SqL K H' a xs) ∧ F (Itl K a) H') ∨ ((∃ xs, SqT K H' a xs) ∧ F (Itt K a) H')) := by
  obtain ⟨L, B, s3⟩ := id s2
  obtain ⟨a, ws, rfl, ha, _⟩ := s3.ls (xs := xs) rfl
  have main : ∀ {ds : List I} {vs : List V} {ρ : List S} {n : Nat} {ex : List I} {σ : L2.St} {H : Hp} {ews : List V}, ews.length = ex.length → St c ρ n (ex ++ ([.v (.lst xs)] ++ ds)) σ H (ews ++ ([.ref a] ++ vs)) → ∃ L B ws, StX c L B ρ n (ex ++ ([.v (.lst xs)] ++ ds)) σ H (ews ++ ([.ref a] ++ vs)) ∧ H a = some (.lst ws) ∧ RA K c.g (Mo c (L ++ B)) H ws xs := by
    intro ds vs ρ n ex σ H ews hl ⟨L, B, s⟩
    have := s.peek (d := .lst xs) (w := .ref a) hl
    cases this with
    | lst _ h r => exact ⟨L, B, _, s, h, r⟩
  refine ⟨a, rfl, .inl ⟨⟨ws, SqL.of ha⟩, k _ fun ds vs => ⟨?_, ?_, ?_⟩⟩⟩
  · intro i ρ n ex σ H ews hi hl s
    obtain ⟨L, B, ws, s, ha, r⟩ := main hl s
    have hi2 : i < ws.length := by rw [r.len]; exact hi
    exact ⟨ws, ws[i], SqL.of ha, List.getElem?_eq_getElem hi2⟩
  · intro i d ρ n ex σ H ews x H' hd hl s ⟨eH, y⟩
    obtain ⟨L, B, ws, s, ha, r⟩ := main hl s
    subst eH
    obtain ⟨w, hw, rw'⟩ := r.at hd
    have := y ws (SqL.of ha)
    rw [hw] at this
    cases this
    exact ⟨L, B, s.pushR rw'⟩
  · intro ρ n ex σ H ews hl s
    obtain ⟨L, B, ws, s, ha, r⟩ := main hl s
    exact ⟨ws, SqL.of ha, by rw [r.len]; exact Nat.le_refl _⟩
theorem sq_T {xs : List D} {σ : L2.St} {H' : Hp} {v : V} {vs : List V} {F : It → Hp → Prop} (s2 : St c ρ n (.v (.tup xs) :: ds) σ H' (v :: vs)) (k : ∀ J, (∀ ds vs, Wk c [.v (.tup xs)] ds [v] vs J xs) → F J H') : ∃ a, v = V.ref a ∧ (((∃ xs, SqL K H' a xs) ∧ F (Itl K a) H') ∨ ((∃ xs, SqT K H' a xs) ∧ F (Itt K a) H')) := by
  obtain ⟨L, B, s3⟩ := id s2
  cases s3.val with
  | @tup a ws _ ha ra =>
  have main : ∀ {ds : List I} {vs : List V} {ρ : List S} {n : Nat} {ex : List I} {σ : L2.St} {H : Hp} {ews : List V}, ews.length = ex.length → St c ρ n (ex ++ ([.v (.tup xs)] ++ ds)) σ H (ews ++ ([.ref a] ++ vs)) → ∃ L B ws, StX c L B ρ n (ex ++ ([.v (.tup xs)] ++ ds)) σ H (ews ++ ([.ref a] ++ vs)) ∧ SqT K H a ws ∧ RA K c.g (Mo c (L ++ B)) H ws xs := by
    intro ds vs ρ n ex σ H ews hl ⟨L, B, s⟩
    have := s.peek (d := .tup xs) (w := .ref a) hl
    cases this with
    | tup h r => exact ⟨L, B, _, s, h.sqt, r⟩
  refine ⟨a, rfl, .inr ⟨⟨ws, ha.sqt⟩, k _ fun ds vs => ⟨?_, ?_, ?_⟩⟩⟩
  · intro i ρ n ex σ H ews hi hl s
    obtain ⟨L, B, ws, s, ha, r⟩ := main hl s
    have hi2 : i < ws.length := by rw [r.len]; exact hi
    exact ⟨ws, ws[i], ha, List.getElem?_eq_getElem hi2⟩
  · intro i d ρ n ex σ H ews x H' hd hl s ⟨eH, y⟩
    obtain ⟨L, B, ws, s, ha, r⟩ := main hl s
    subst eH
    obtain ⟨w, hw, rw'⟩ := r.at hd
    have := y ws ha
    rw [hw] at this
    cases this
    exact ⟨L, B, s.pushR rw'⟩
  · intro ρ n ex σ H ews hl s
    obtain ⟨L, B, ws, s, ha, r⟩ := main hl s
    exact ⟨ws, ha, by rw [r.len]; exact Nat.le_refl _⟩
theorem iseq_ {te : TE} {Q : List I → List D → QS} (h : GE c ρ n ds te fun it ρ' n' => ∃ xs, it.seq = some xs ∧ Q [.v it.val] xs (frz1 ρ' it) n') : GI c ρ n ds (iSeqU K te) Q := fun σ H vs F s k =>
  h σ H vs _ s fun it ρ' n' v H' ⟨xs, e, q⟩ s1 => by
    have s2 := St.frz1 (ds := ds) s1
    have es' : it.val.seq = some xs := e
    generalize it.val = d at s2 es' q
    rcases seq_some es' with rfl | rfl
    · exact sq_L s2 fun J wk => k [.v (.lst xs)] _ _ n' [v] J H' q rfl s2 wk
    · exact sq_T s2 fun J wk => k [.v (.tup xs)] _ _ n' [v] J H' q rfl s2 wk
theorem gseq_ {m : Nat} {gs : TGs} {it : I} {xs : List D} (e : it.seq = some xs) (hl : xs.length = m) (h : GGs c (frz1 ρ it) n ds gs (xs.map I.v) QG) : GG c ρ n ds (HU.gSeq K m gs) it QG := fun σ H vs v F s k => by
  have s2 := s.frz1
  have es' : it.val.seq = some xs := e
  generalize it.val = d at s2 es'
  rcases seq_some es' with rfl | rfl
  · exact .inl (HD.gunl_ rfl hl h σ H vs v F s2 k)
  · exact .inr (HD.gtup_ hl h σ H vs v F s2 k)
theorem tupleOf_ {it : I} {xs : List D} (e : it.seq = some xs) (h : ∀ ρ', ρ' = ρ ∨ ρ' = frz1 ρ it → Q (.v (.tup xs)) ρ' n) : GB c ρ n ds (rTupleOf K) [it] Q := by
  rcases seq_some (show it.val.seq = some xs from e) with z | z
  · exact tupleOfL_ z (h ρ (.inl rfl))
  · refine gb1 fun σ H vs x F L B s k => ?_
    have s2 := St.frz1 (ds := ds) ⟨L, B, s⟩
    rw [z] at s2
    obtain ⟨L, B, s2⟩ := s2
    exact tupleOfT_ (h _ (.inr rfl)) σ H vs [x] F rfl ⟨L, B, s2⟩ k
theorem listOfA_ {it : I} {xs : List D} (e : it.seq = some xs) (h : Q (.o (.lst xs)) ρ n) : GB c ρ n ds (rListOf K) [it] Q := listOf_ e h
end
theorem sIx_to (n d k : Nat) : HT.sIx n d (some (k : Int)) = min k n := HT.sIx_nat n d k
theorem cutD_to (xs : List D) (k : Nat) : HD.cutD xs none (some (k : Int)) = xs.take k := by
  have e1 : HT.sIx xs.length 0 none = 0 := rfl
  unfold HD.cutD
  rw [e1, sIx_to, List.drop_zero, Nat.sub_zero]
  rcases Nat.le_total k xs.length with h | h
  · rw [Nat.min_eq_left h]
  · rw [Nat.min_eq_right h, List.take_length, List.take_of_length_le h]
theorem cutD_from (xs : List D) (k : Nat) : HD.cutD xs (some (k : Int)) none = xs.drop k := by
  have e1 : HT.sIx xs.length xs.length none = xs.length := rfl
  unfold HD.cutD
  rw [e1, sIx_to]
  rcases Nat.le_total k xs.length with h | h
  · rw [Nat.min_eq_left h, List.take_of_length_le (by rw [List.length_drop]; exact Nat.le_refl _)]
  · rw [Nat.min_eq_right h, Nat.sub_self, List.take_zero, List.drop_eq_nil_of_le h]
theorem inB_false {a : D} {xs : List D} (h : a ∉ xs) : inB a xs = false := by
  cases e : inB a xs with
  | false => rfl
  | true => exact absurd (inB_iff.mp e) h
theorem inB_true {a : D} {xs : List D} (h : a ∈ xs) : inB a xs = true := inB_iff.mpr h
theorem eqB_false {a b : D} (h : a ≠ b) : eqB a b = false := by
  cases e : eqB a b with
  | false => rfl
  | true => exact absurd (eqB_iff.mp e) h
theorem eqB_true {a b : D} (h : a = b) : eqB a b = true := eqB_iff.mpr h
theorem nodup_le {α : Type} [BEq α] [LawfulBEq α] : ∀ (l M : List α), l.Nodup → (∀ x ∈ l, x ∈ M) → l.length ≤ M.length
  | [], _, _, _ => Nat.zero_le _
  | x :: l, M, hn, h => by
    have h1 := List.nodup_cons.mp hn
    have hx := h x (List.mem_cons_self ..)
    have ih := nodup_le l (M.erase x) h1.2 fun y hy => (List.mem_erase_of_ne (fun e => h1.1 (by rw [← e]; exact hy))).mpr (h y (List.mem_cons_of_mem _ hy))
    rw [List.length_erase_of_mem hx] at ih
    have := List.length_pos_of_mem hx
    rw [List.length_cons]
    omega
theorem str_ok (s : String) : PyData.strOk (Str.ofString s) = true := by
  unfold PyData.strOk
  rw [← Array.all_toList, signs_ofString, List.all_eq_true]
  intro n hn
  obtain ⟨c, _, rfl⟩ := List.mem_map.mp hn
  refine decide_eq_true ?_
  rcases c.valid with h | h
  · exact Nat.lt_trans h (by decide)
  · exact h.2
end HS2
/-! bits of integers from nought -/
namespace HBt
open PySem PySem.Spec PyProof.Rows L2 HX HD
/-- the places of the bits of a number below 2 ^ 64 -/
def nums (x : Nat) : List Nat := (List.range 64).filter fun i => x.testBit i
theorem range_filter {p : Nat → Bool} : ∀ {m n : Nat}, m ≤ n → (∀ i, m ≤ i → p i = false) → (List.range n).filter p = (List.range m).filter p := fun {m n} h hp => by
  obtain ⟨k, rfl⟩ := Nat.le.dest h
  rw [List.range_add, List.filter_append]
  rw [show ((List.range k).map (m + ·)).filter p = [] from List.filter_eq_nil_iff.mpr fun x hx => by
    obtain ⟨j, _, rfl⟩ := List.mem_map.mp hx
    rw [hp _ (Nat.le_add_right m j)]; exact Bool.false_ne_true]
  rw [List.append_nil]
theorem nums_mem {x i : Nat} (h : x < 2 ^ 64) : i ∈ nums x ↔ x.testBit i = true := by
  unfold nums
  rw [List.mem_filter, List.mem_range]
  refine ⟨fun h => h.2, fun hb => ⟨?_, hb⟩⟩
  rcases Nat.lt_or_ge i 64 with z | z
  · exact z
  · rw [Nat.testBit_lt_two_pow (Nat.lt_of_lt_of_le h (Nat.pow_le_pow_right (by decide) z))] at hb; cases hb
theorem nums_bits {x : Nat} (h : x < 2 ^ 64) : (List.range (Builtin.Int.intBits (x : Int))).filter (fun i => x.testBit i) = nums x := by
  have h1 : Builtin.Int.intBits (x : Int) ≤ 64 := intBits_le (by rw [Int.natAbs_natCast]; exact h)
  unfold nums
  refine (range_filter h1 fun i hi => ?_).symm
  have h2 : x < 2 ^ (Builtin.Int.intBits (x : Int)) := by
    have := (PySem.intBits_le_iff (m := Builtin.Int.intBits (x : Int)) (x := (x : Int))).mp (Nat.le_refl _)
    rwa [Int.natAbs_natCast] at this
  exact Nat.testBit_lt_two_pow (Nat.lt_of_lt_of_le h2 (Nat.pow_le_pow_right (by decide) hi))
theorem testBit_div {x i : Nat} : decide (((x / 2 ^ i % 2 : Nat) : Int) = 1) = x.testBit i := by
  rw [Nat.testBit_eq_decide_div_mod_eq]
  by_cases h : x / 2 ^ i % 2 = 1
  · rw [decide_eq_true (by rw [h]; rfl), decide_eq_true h]
  · rw [decide_eq_false (fun z => h (by exact_mod_cast z)), decide_eq_false h]
theorem nums_pair (x : Nat) : (nums x).Pairwise (· < ·) := List.Pairwise.filter _ List.pairwise_lt_range
/-! ### the lowest bit -/
def lowb (n : Nat) : Nat := (Builtin.bitAnd (n : Int) (-(n : Int))).toNat
theorem odd_part : ∀ (n : Nat), 0 < n → ∃ k a, n = 2 ^ k * (2 * a + 1) := fun n => by
  induction n using Nat.strongRecOn with
  | ind n ih =>
    intro hn
    rcases Nat.mod_two_eq_zero_or_one n with h | h
    · obtain ⟨k, a, e⟩ := ih (n / 2) (by omega) (by omega)
      refine ⟨k + 1, a, ?_⟩
      rw [Nat.pow_succ, Nat.mul_comm (2 ^ k) 2, Nat.mul_assoc, ← e]; omega
    · exact ⟨0, n / 2, by omega⟩
theorem lowb_spec {n : Nat} (hn : 0 < n) : ∃ k, lowb n = 2 ^ k ∧ Builtin.bitAnd (n : Int) (-(n : Int)) = ((lowb n : Nat) : Int) ∧ n.testBit k = true ∧ ∀ j, j < k → n.testBit j = false := by
  obtain ⟨k, a, e⟩ := odd_part n hn
  have h := PySem.W.kbt_low k (a : Int)
  have e2 : (2 : Int) ^ k * (2 * (a : Int) + 1) = ((n : Nat) : Int) := by rw [e]; push_cast; rfl
  rw [e2] at h
  have e3 : lowb n = 2 ^ k := by
    unfold lowb
    rw [h, show (2 : Int) ^ k = ((2 ^ k : Nat) : Int) from by push_cast; rfl, Int.toNat_natCast]
  refine ⟨k, e3, by rw [h, e3]; push_cast; rfl, ?_, fun j hj => ?_⟩
  · rw [e, Nat.mul_comm, Nat.testBit_mul_two_pow]
    simp
  · rw [e, Nat.mul_comm, Nat.testBit_mul_two_pow]
    simp only [ge_iff_le, Bool.and_eq_false_iff, decide_eq_false_iff_not]
    exact .inl (Nat.not_le_of_lt hj)
section
variable {K : PySem.W.Frag} {c : Wd K} {ρ : List S} {n : Nat} {ds : List I} {Q : QI} {a b : Nat}
theorem xorN_ (h : Q (.v (.int ((a ^^^ b : Nat) : Int))) ρ n) : GO c ρ n ds (rI0 fun i j => .int (Builtin.bitXor i j)) (.v (.int (a : Int))) (.v (.int (b : Int))) Q := iInt_ (f := fun i j => Builtin.bitXor i j) (by rw [HY.xor_nat]; exact h)
theorem orN_ (h : Q (.v (.int ((a ||| b : Nat) : Int))) ρ n) : GO c ρ n ds (rI0 fun i j => .int (Builtin.bitOr i j)) (.v (.int (a : Int))) (.v (.int (b : Int))) Q := iInt_ (f := fun i j => Builtin.bitOr i j) (by rw [HY.or_nat]; exact h)
theorem andN_ (h : Q (.v (.int ((a &&& b : Nat) : Int))) ρ n) : GO c ρ n ds (rI0 fun i j => .int (Builtin.bitAnd i j)) (.v (.int (a : Int))) (.v (.int (b : Int))) Q := iInt_ (f := fun i j => Builtin.bitAnd i j) (by rw [PySem.W.os_band]; exact h)
theorem and1_ (h : Q (.v (.int ((a % 2 : Nat) : Int))) ρ n) : GO c ρ n ds (rI0 fun i j => .int (Builtin.bitAnd i j)) (.v (.int (a : Int))) (.v (.int 1)) Q := iInt_ (f := fun i j => Builtin.bitAnd i j) (by rw [bitAnd_m1]; exact h)
theorem shr_ (h : Q (.v (.int ((a / 2 ^ b : Nat) : Int))) ρ n) : GO c ρ n ds (rI (fun _ j => 0 ≤ j) fun i j => .int (i / 2 ^ j.toNat)) (.v (.int (a : Int))) (.v (.int (b : Int))) Q := iC_ (f := fun i j => i / 2 ^ j.toNat) (Int.natCast_nonneg _) (by
  rw [Int.toNat_natCast, show ((a : Int) / 2 ^ b) = ((a / 2 ^ b : Nat) : Int) from by push_cast; rfl]; exact h)
theorem shl_ (ha : a < 2 ^ 64) (hb : b ≤ 1000000) (h : Q (.v (.int ((a * 2 ^ b : Nat) : Int))) ρ n) : GO c ρ n ds (rI CPow fun i j => .int (i * 2 ^ j.toNat)) (.v (.int (a : Int))) (.v (.int (b : Int))) Q := iC_ (f := fun i j => i * 2 ^ j.toNat) ⟨Int.natCast_nonneg _, by omega, by rw [Int.natAbs_natCast]; exact ha⟩ (by
  rw [Int.toNat_natCast, show ((a : Int) * 2 ^ b) = ((a * 2 ^ b : Nat) : Int) from by push_cast; rfl]; exact h)
theorem shl1_ (hb : b ≤ 1000000) (h : Q (.v (.int ((2 ^ b : Nat) : Int))) ρ n) : GO c ρ n ds (rI CPow fun i j => .int (i * 2 ^ j.toNat)) (.v (.int 1)) (.v (.int (b : Int))) Q := shl_ (a := 1) (by decide) hb (by rw [Nat.one_mul]; exact h)
theorem low_ (ha : 0 < a) (h : Q (.v (.int ((lowb a : Nat) : Int))) ρ n) : GO c ρ n ds (rI0 fun i j => .int (Builtin.bitAnd i j)) (.v (.int (a : Int))) (.v (.int (-(a : Int)))) Q := iInt_ (f := fun i j => Builtin.bitAnd i j) (by
  obtain ⟨k, _, e, _⟩ := lowb_spec ha
  rw [e]; exact h)
theorem addN_ (h : Q (.v (.int ((a + b : Nat) : Int))) ρ n) : GO c ρ n ds (rAddU K) (.v (.int (a : Int))) (.v (.int (b : Int))) Q := addI_ (by rw [show ((a : Int) + (b : Int)) = ((a + b : Nat) : Int) from rfl]; exact h)
theorem add1_ (h : Q (.v (.int ((a + 1 : Nat) : Int))) ρ n) : GO c ρ n ds (rAddU K) (.v (.int (a : Int))) (.v (.int 1)) Q := addI_ (by rw [show ((a : Int) + 1) = ((a + 1 : Nat) : Int) from rfl]; exact h)
/-! ### range of a number from nought -/
theorem natpow62 {m : Nat} (h : m < 2 ^ 62) : (m : Int) < 2 ^ 62 := by
  have : ((2 ^ 62 : Nat) : Int) = 2 ^ 62 := by decide
  omega
def rngN (m : Nat) : List D := (List.range m).map fun (i : Nat) => D.int (i : Int)
theorem rngN_len {m : Nat} : (rngN m).length = m := by unfold rngN; rw [List.length_map, List.length_range]
theorem rngN_at {m i : Nat} {d : D} (h : (rngN m)[i]? = some d) : i < m ∧ d = .int (i : Int) := by
  have hi := (List.getElem?_eq_some_iff.mp h).1
  rw [rngN_len] at hi
  unfold rngN at h
  rw [List.getElem?_map, List.getElem?_range hi] at h
  exact ⟨hi, (Option.some.inj h).symm⟩
theorem rngN_mem {m : Nat} {d : D} (h : d ∈ rngN m) : ∃ i, i < m ∧ d = .int (i : Int) := by
  obtain ⟨i, hi, rfl⟩ := List.mem_map.mp h
  exact ⟨i, List.mem_range.mp hi, rfl⟩
theorem rngN_eq (m : Nat) : rngD 0 (m : Int).toNat = rngN m := by
  unfold rngD rngN
  rw [Int.toNat_natCast]
  refine List.map_congr_left fun i _ => ?_
  rw [Int.zero_add]
theorem irngN_ {ta : TA} {Q : List I → List D → QS} (h : GA c ρ n ds ta fun its ρ' n' => ∃ m : Nat, its = [.v (.int (m : Int))] ∧ m < 2 ^ 62 ∧ Q [] (rngN m) ρ' n') : GI c ρ n ds (iRng1 ta) Q := irng1_ (fun σ H vs F s k => h σ H vs F s fun its ρ' n' xs H' ⟨m, e, hm, q⟩ hl s' => k its ρ' n' xs H' ⟨(m : Int), e, ⟨by omega, natpow62 hm⟩, by rw [rngN_eq]; exact q⟩ hl s')
theorem exrng_ {m : Nat} {P : Nat → Prop} (hm : m < 2 ^ 62) (h : P m) : ∃ k : Nat, [I.v (.int (m : Int))] = [.v (.int (k : Int))] ∧ k < 2 ^ 62 ∧ P k := ⟨m, rfl, hm, h⟩
end
theorem filter_map_int {p : Nat → Bool} {q : D → Bool} (h : ∀ i : Nat, q (.int (i : Int)) = p i) : ∀ l : List Nat, (l.map fun (i : Nat) => D.int (i : Int)).filter q = (l.filter p).map fun (i : Nat) => D.int (i : Int)
  | [] => rfl
  | i :: l => by
    rw [List.map_cons, List.filter_cons, List.filter_cons, h i, filter_map_int h l]
    cases p i <;> rfl
theorem nums_sum {x : Nat} : ∀ n : Nat, (((List.range n).filter fun i => x.testBit i).map (2 ^ ·)).sum = x % 2 ^ n
  | 0 => by rw [Nat.pow_zero, Nat.mod_one]; rfl
  | n + 1 => by
    rw [List.range_succ, List.filter_append, List.map_append, List.sum_append, nums_sum n, Nat.pow_succ, Nat.mod_mul]
    congr 1
    have h := Nat.testBit_eq_decide_div_mod_eq (x := x) (i := n)
    rcases Nat.mod_two_eq_zero_or_one (x / 2 ^ n) with e | e <;> rw [e] at h ⊢ <;> simp [h]
theorem nums_all {x : Nat} (h : x < 2 ^ 64) : ((nums x).map (2 ^ ·)).sum = x := by unfold nums; rw [nums_sum, Nat.mod_eq_of_lt h]
theorem nums_count {x n : Nat} (h : x < 2 ^ n) (hn : n ≤ 64) : (nums x).length = (List.range n).countP fun i => x.testBit i := by
  unfold nums
  rw [List.countP_eq_length_filter, range_filter hn fun i hi => Nat.testBit_lt_two_pow (Nat.lt_of_lt_of_le h (Nat.pow_le_pow_right (by decide) hi))]
theorem sorted_unique : ∀ {a b : List Int}, a.Pairwise (· < ·) → b.Pairwise (· < ·) → (∀ k, k ∈ a ↔ k ∈ b) → a = b
  | [], [], _, _, _ => rfl
  | [], y :: b, _, _, h => absurd ((h y).mpr (List.mem_cons_self ..)) (by simp)
  | x :: a, [], _, _, h => absurd ((h x).mp (List.mem_cons_self ..)) (by simp)
  | x :: a, y :: b, ha, hb, h => by
    have h1 := List.pairwise_cons.mp ha
    have h2 := List.pairwise_cons.mp hb
    have e : x = y := by
      rcases List.mem_cons.mp ((h x).mp (List.mem_cons_self ..)) with z | z
      · exact z
      · rcases List.mem_cons.mp ((h y).mpr (List.mem_cons_self ..)) with w | w
        · exact w.symm
        · have := h2.1 x z; have := h1.1 y w; omega
    subst e
    rw [sorted_unique h1.2 h2.2 fun k => ?_]
    constructor
    · intro hk
      rcases List.mem_cons.mp ((h k).mp (List.mem_cons_of_mem _ hk)) with z | z
      · subst z; have := h1.1 k hk; omega
      · exact z
    · intro hk
      rcases List.mem_cons.mp ((h k).mpr (List.mem_cons_of_mem _ hk)) with z | z
      · subst z; have := h2.1 k hk; omega
      · exact z
/-- integers from nought as data -/
def natsD (l : List Nat) : List D := l.map fun (i : Nat) => D.int (i : Int)
theorem natsD_ints (l : List Nat) : natsD l = (l.map fun (i : Nat) => (i : Int)).map D.int := by unfold natsD; rw [List.map_map]; rfl
end HBt
/-! the plain law of free vectors by two -/
namespace HGf
/-- a free vector: its lowest bit, the vector, the lot that makes it, its outcome -/
structure Q4 where
  h : Nat
  v : Nat
  l : Nat
  o : Nat
/-- the sum by two of the numbers of a lot; the first one has the number k -/
def X (lot : Nat) : Nat → List Nat → Nat
  | _, [] => 0
  | k, v :: vs => (if lot.testBit k = true then v else 0) ^^^ X lot (k + 1) vs
theorem xx (a b : Nat) : a ^^^ b ^^^ b = a := by rw [Nat.xor_assoc, Nat.xor_self, Nat.xor_zero]
theorem x4 (a b c d : Nat) : (a ^^^ b) ^^^ (c ^^^ d) = (a ^^^ c) ^^^ (b ^^^ d) := by
  rw [Nat.xor_assoc, Nat.xor_assoc, ← Nat.xor_assoc b c d, Nat.xor_comm b c, Nat.xor_assoc c b d]
theorem xor_swap {a b c : Nat} (h : a ^^^ b = c) : a = c ^^^ b := by rw [← h, xx]
theorem xor_eq0 {a b : Nat} (h : a ^^^ b = 0) : a = b := by
  have := xor_swap h
  rwa [Nat.zero_xor] at this
theorem X_zero : ∀ (k : Nat) (vs : List Nat), X 0 k vs = 0
  | _, [] => rfl
  | k, v :: vs => by rw [X, Nat.zero_testBit, X_zero (k + 1) vs, if_neg Bool.false_ne_true, Nat.xor_zero]
theorem X_xor (a b : Nat) : ∀ (k : Nat) (vs : List Nat), X (a ^^^ b) k vs = X a k vs ^^^ X b k vs
  | _, [] => (Nat.xor_zero 0).symm
  | k, v :: vs => by
    rw [X, X, X, X_xor a b (k + 1) vs, x4, Nat.testBit_xor]
    congr 1
    cases a.testBit k <;> cases b.testBit k <;> simp
theorem X_append (lot : Nat) : ∀ (k : Nat) (vs ws : List Nat), X lot k (vs ++ ws) = X lot k vs ^^^ X lot (k + vs.length) ws
  | k, [], ws => by rw [List.nil_append, X, Nat.zero_xor, List.length_nil, Nat.add_zero]
  | k, v :: vs, ws => by
    rw [List.cons_append, X, X, X_append lot (k + 1) vs ws, ← Nat.xor_assoc, List.length_cons, show k + 1 + vs.length = k + (vs.length + 1) by omega]
/-- no number of the lot is met -/
theorem X_none {lot : Nat} : ∀ {k : Nat} {vs : List Nat}, (∀ i, k ≤ i → lot.testBit i = false) → X lot k vs = 0
  | _, [], _ => rfl
  | k, v :: vs, h => by
    rw [X, h k (Nat.le_refl k), X_none fun i hi => h i (by omega), if_neg Bool.false_ne_true, Nat.xor_zero]
theorem bit_hi {lot n i : Nat} (h : lot < 2 ^ n) (hi : n ≤ i) : lot.testBit i = false := Nat.testBit_lt_two_pow (Nat.lt_of_lt_of_le h (Nat.pow_le_pow_right (by decide) hi))
theorem X_snoc {lot v : Nat} {vs : List Nat} : X lot 0 (vs ++ [v]) = X lot 0 vs ^^^ (if lot.testBit vs.length = true then v else 0) := by
  rw [X_append, Nat.zero_add, X, X, Nat.xor_zero]
theorem X_low {lot v : Nat} {vs : List Nat} (h : lot < 2 ^ vs.length) : X lot 0 (vs ++ [v]) = X lot 0 vs := by
  rw [X_snoc, bit_hi h (Nat.le_refl _)]; exact Nat.xor_zero _
theorem X_low' {lot : Nat} {vs ws : List Nat} (h : lot < 2 ^ vs.length) : X lot 0 (vs ++ ws) = X lot 0 vs := by
  rw [X_append, Nat.zero_add, X_none fun i hi => bit_hi h hi, Nat.xor_zero]
theorem X_pow {n : Nat} : ∀ {k : Nat} {vs : List Nat} {v : Nat}, k ≤ n → vs[n - k]? = some v → X (2 ^ n) k vs = v
  | _, [], _, _, e => by cases e
  | k, w :: vs, v, h, e => by
    rw [X]
    rcases Nat.lt_or_ge k n with z | z
    · rw [Nat.testBit_two_pow_of_ne (Nat.ne_of_gt z), if_neg Bool.false_ne_true, Nat.zero_xor]
      refine X_pow (by omega) ?_
      rw [show n - k = (n - (k + 1)) + 1 by omega] at e
      exact e
    · have : k = n := Nat.le_antisymm h z
      subst this
      rw [Nat.sub_self] at e
      cases e
      rw [Nat.testBit_two_pow_self, if_pos rfl, X_none fun i hi => Nat.testBit_two_pow_of_ne (by omega), Nat.xor_zero]
theorem X_top {v : Nat} {vs : List Nat} : X (2 ^ vs.length) 0 (vs ++ [v]) = v := X_pow (Nat.zero_le _) (by rw [Nat.sub_zero]; simp)
theorem X_map {f : Nat → Nat} (h0 : f 0 = 0) (hx : ∀ a b, f (a ^^^ b) = f a ^^^ f b) (lot : Nat) : ∀ (k : Nat) (vs : List Nat), f (X lot k vs) = X lot k (vs.map f)
  | _, [] => h0
  | k, v :: vs => by
    rw [X, hx, X_map h0 hx lot (k + 1) vs, List.map_cons, X]
    congr 1
    split
    · rfl
    · exact h0
/-- what some of the vectors of a base add up to -/
def Sp : List Q4 → Nat → Nat → Nat → Prop
  | [], v, l, o => v = 0 ∧ l = 0 ∧ o = 0
  | q :: b, v, l, o => Sp b v l o ∨ Sp b (v ^^^ q.v) (l ^^^ q.l) (o ^^^ q.o)
theorem Sp.zero : ∀ b : List Q4, Sp b 0 0 0
  | [] => ⟨rfl, rfl, rfl⟩
  | _ :: b => .inl (Sp.zero b)
theorem Sp.xor : ∀ {b : List Q4} {v l o v' l' o' : Nat}, Sp b v l o → Sp b v' l' o' → Sp b (v ^^^ v') (l ^^^ l') (o ^^^ o')
  | [], _, _, _, _, _, _, ⟨a1, a2, a3⟩, ⟨b1, b2, b3⟩ => by subst a1 a2 a3 b1 b2 b3; exact ⟨rfl, rfl, rfl⟩
  | q :: b, v, l, o, v', l', o', h, h' => by
    have r : ∀ a c d : Nat, (a ^^^ d) ^^^ c = a ^^^ c ^^^ d := fun a c d => by rw [Nat.xor_assoc, Nat.xor_comm d c, ← Nat.xor_assoc]
    have s : ∀ a c d : Nat, a ^^^ (c ^^^ d) = a ^^^ c ^^^ d := fun a c d => by rw [← Nat.xor_assoc]
    have t : ∀ a c d : Nat, (a ^^^ d) ^^^ (c ^^^ d) = a ^^^ c := fun a c d => by rw [x4, Nat.xor_self, Nat.xor_zero]
    rcases h with h | h <;> rcases h' with h' | h'
    · exact .inl (h.xor h')
    · have := h.xor h'; rw [s v v' q.v, s l l' q.l, s o o' q.o] at this; exact .inr this
    · have := h.xor h'; rw [r v v' q.v, r l l' q.l, r o o' q.o] at this; exact .inr this
    · have := h.xor h'; rw [t v v' q.v, t l l' q.l, t o o' q.o] at this; exact .inl this
theorem Sp.more : ∀ {b c : List Q4} {v l o : Nat}, Sp b v l o → Sp (b ++ c) v l o
  | [], c, _, _, _, ⟨a1, a2, a3⟩ => by subst a1 a2 a3; exact Sp.zero c
  | q :: b, c, _, _, _, h => h.elim (fun h => .inl h.more) fun h => .inr h.more
theorem Sp.last : ∀ (b : List Q4) (q : Q4), Sp (b ++ [q]) q.v q.l q.o
  | [], q => .inr ⟨Nat.xor_self _, Nat.xor_self _, Nat.xor_self _⟩
  | _ :: b, q => .inl (Sp.last b q)
theorem Sp.bit {k : Nat} : ∀ {b : List Q4} {v l o : Nat}, (∀ p ∈ b, p.v.testBit k = false) → Sp b v l o → v.testBit k = false
  | [], _, _, _, _, ⟨a1, _, _⟩ => by subst a1; exact Nat.zero_testBit k
  | q :: b, v, _, _, hb, h => by
    rcases h with h | h
    · exact Sp.bit (fun p hp => hb p (List.mem_cons_of_mem _ hp)) h
    · have := Sp.bit (fun p hp => hb p (List.mem_cons_of_mem _ hp)) h
      rw [Nat.testBit_xor, hb q (List.mem_cons_self ..), Bool.xor_false] at this
      exact this
/-- each vector without the heads ahead of it -/
def Tri : List Q4 → Prop
  | [] => True
  | q :: b => (∃ k, q.h = 2 ^ k ∧ q.v.testBit k = true ∧ ∀ p ∈ b, p.v.testBit k = false) ∧ Tri b
def Clear (b : List Q4) (v : Nat) : Prop := ∀ q ∈ b, ∀ k, q.h = 2 ^ k → v.testBit k = false
theorem Sp.clear : ∀ {b : List Q4} {v l o : Nat}, Tri b → Clear b v → Sp b v l o → v = 0 ∧ l = 0 ∧ o = 0
  | [], _, _, _, _, _, h => h
  | q :: b, v, l, o, ⟨⟨k, h1, h2, h3⟩, t⟩, hc, h => by
    have hb : Clear b v := fun p hp => hc p (List.mem_cons_of_mem _ hp)
    rcases h with h | h
    · exact Sp.clear t hb h
    · have := Sp.bit h3 h
      rw [Nat.testBit_xor, hc q (List.mem_cons_self ..) k h1, h2] at this
      cases this
theorem pow_inj {j k : Nat} (h : 2 ^ j = 2 ^ k) : j = k := by
  have := congrArg Nat.log2 h
  rwa [Nat.log2_two_pow, Nat.log2_two_pow] at this
/-- what a base leaves of a vector, the lot and the outcome -/
def red : List Q4 → Nat → Nat → Nat → Nat × Nat × Nat
  | [], v, t, o => (v, t, o)
  | q :: b, v, t, o => if v &&& q.h = 0 then red b v t o else red b (v ^^^ q.v) (t ^^^ q.l) (o ^^^ q.o)
theorem and_pow {v k : Nat} : v &&& 2 ^ k = 0 ↔ v.testBit k = false := by
  constructor
  · intro h
    have := congrArg (fun x => x.testBit k) h
    simpa [Nat.testBit_and, Nat.testBit_two_pow_self] using this
  · intro h
    refine Nat.eq_of_testBit_eq fun i => ?_
    rw [Nat.testBit_and, Nat.zero_testBit]
    by_cases e : k = i
    · subst e; rw [h]; rfl
    · rw [Nat.testBit_two_pow_of_ne e, Bool.and_false]
theorem red_spec : ∀ {b : List Q4} (v t o : Nat), Tri b → Sp b (v ^^^ (red b v t o).1) (t ^^^ (red b v t o).2.1) (o ^^^ (red b v t o).2.2) ∧ Clear b (red b v t o).1
  | [], v, t, o, _ => ⟨⟨Nat.xor_self _, Nat.xor_self _, Nat.xor_self _⟩, fun q hq => by cases hq⟩
  | q :: b, v, t, o, ⟨⟨k, h1, h2, h3⟩, tr⟩ => by
    have fin : ∀ (v' : Nat) (r : Nat), v'.testBit k = false → ∀ {l o'}, Sp b (v' ^^^ r) l o' → r.testBit k = false := fun v' r hv l o' hs => by
      have := Sp.bit h3 hs
      rw [Nat.testBit_xor, hv, Bool.false_xor] at this
      exact this
    have cl : ∀ r : Nat, r.testBit k = false → Clear b r → Clear (q :: b) r := fun r hr hb p hp j hj => by
      rcases List.mem_cons.mp hp with rfl | hp
      · rw [h1] at hj; rw [← pow_inj hj]; exact hr
      · exact hb p hp j hj
    rw [red]
    split
    · rename_i hz
      rw [h1] at hz
      have hv := and_pow.mp hz
      obtain ⟨s, c⟩ := red_spec v t o tr
      exact ⟨.inl s, cl _ (fin v _ hv s) c⟩
    · rename_i hz
      rw [h1] at hz
      have hv : v.testBit k = true := by
        cases e : v.testBit k with
        | true => rfl
        | false => exact absurd (and_pow.mpr e) hz
      obtain ⟨s, c⟩ := red_spec (v ^^^ q.v) (t ^^^ q.l) (o ^^^ q.o) tr
      have hv' : (v ^^^ q.v).testBit k = false := by rw [Nat.testBit_xor, hv, h2]; rfl
      refine ⟨.inr ?_, cl _ (fin _ _ hv' s) c⟩
      have r : ∀ a c d : Nat, a ^^^ d ^^^ c = a ^^^ c ^^^ d := fun a c d => by rw [Nat.xor_assoc, Nat.xor_comm d c, ← Nat.xor_assoc]
      rw [r v _ q.v, r t _ q.l, r o _ q.o] at s
      exact s
theorem red0 {b : List Q4} (v : Nat) (t : Tri b) : Sp b (v ^^^ (red b v 0 0).1) (red b v 0 0).2.1 (red b v 0 0).2.2 ∧ Clear b (red b v 0 0).1 := by
  have := red_spec v 0 0 t
  rwa [Nat.zero_xor, Nat.zero_xor] at this
/-- what a base makes leaves nothing, and is taken away so -/
theorem red_of {b : List Q4} {v l o : Nat} (t : Tri b) (h : Sp b v l o) : red b v 0 0 = (0, l, o) := by
  obtain ⟨s, c⟩ := red0 v t
  have := h.xor s
  rw [← Nat.xor_assoc, Nat.xor_self, Nat.zero_xor] at this
  obtain ⟨e1, e2, e3⟩ := this.clear t c
  have e2 := xor_eq0 e2
  have e3 := xor_eq0 e3
  rw [show red b v 0 0 = ((red b v 0 0).1, (red b v 0 0).2.1, (red b v 0 0).2.2) from rfl, e1, ← e2, ← e3]
theorem red_zero {b : List Q4} {v : Nat} (t : Tri b) (h : (red b v 0 0).1 = 0) : Sp b v (red b v 0 0).2.1 (red b v 0 0).2.2 := by
  have := (red0 v t).1
  rwa [h, Nat.xor_zero] at this
/-- l has no number beside F's -/
def Sub (l F : Nat) : Prop := ∀ i, l.testBit i = true → F.testBit i = true
theorem Sub.xor {a b F : Nat} (h : Sub a F) (g : Sub b F) : Sub (a ^^^ b) F := fun i hi => by
  rw [Nat.testBit_xor] at hi
  cases e : a.testBit i with
  | true => exact h i e
  | false => rw [e, Bool.false_xor] at hi; exact g i hi
/-- a base of the first cases, F the free ones -/
structure BI (b : List Q4) (V O : List Nat) (F : Nat) : Prop where
  len : V.length = O.length
  tri : Tri b
  el : ∀ q ∈ b, q.v = X q.l 0 V ∧ q.o = X q.l 0 O ∧ Sub q.l F
  all : ∀ i v o : Nat, V[i]? = some v → O[i]? = some o → ∃ l, Sp b v l o
  free : ∀ i : Nat, F.testBit i = true → ∃ v o : Nat, V[i]? = some v ∧ O[i]? = some o ∧ Sp b v (2 ^ i) o
theorem BI.nil : BI [] [] [] 0 := ⟨rfl, trivial, (fun q hq => by cases hq), (fun i v o h => by cases h), fun i h => by rw [Nat.zero_testBit] at h; cases h⟩
section
variable {b : List Q4} {V O : List Nat} {F : Nat}
theorem BI.sp (B : BI b V O F) {v l o : Nat} (h : Sp b v l o) : v = X l 0 V ∧ o = X l 0 O ∧ Sub l F := by
  have : ∀ {c : List Q4} {v l o : Nat}, (∀ q ∈ c, q.v = X q.l 0 V ∧ q.o = X q.l 0 O ∧ Sub q.l F) → Sp c v l o → v = X l 0 V ∧ o = X l 0 O ∧ Sub l F := fun {c} => by
    induction c with
    | nil =>
      intro v l o _ h
      obtain ⟨rfl, rfl, rfl⟩ := h
      exact ⟨(X_zero 0 V).symm, (X_zero 0 O).symm, fun i h => by rw [Nat.zero_testBit] at h; cases h⟩
    | cons q c ih =>
      intro v l o hq h
      rcases h with h | h
      · exact ih (fun p hp => hq p (List.mem_cons_of_mem _ hp)) h
      · obtain ⟨e1, e2, e3⟩ := ih (fun p hp => hq p (List.mem_cons_of_mem _ hp)) h
        obtain ⟨f1, f2, f3⟩ := hq q (List.mem_cons_self ..)
        rw [X_xor, ← f1] at e1
        rw [X_xor, ← f2] at e2
        refine ⟨?_, ?_, ?_⟩
        · have := xor_swap e1; rwa [xx] at this
        · have := xor_swap e2; rwa [xx] at this
        · have := e3.xor f3; rwa [xx] at this
  exact this B.el h
theorem BI.F_lt (B : BI b V O F) {i : Nat} (h : F.testBit i = true) : i < V.length := by
  obtain ⟨v, o, h1, _⟩ := B.free i h
  exact (List.getElem?_eq_some_iff.mp h1).1
theorem BI.lot_lt (B : BI b V O F) {l : Nat} (h : Sub l F) : l < 2 ^ V.length := by
  refine Nat.lt_pow_two_of_testBit l fun i hi => ?_
  cases e : l.testBit i with
  | false => rfl
  | true => have := B.F_lt (h i e); omega
theorem BI.el_more (B : BI b V O F) (v o : Nat) : ∀ q ∈ b, q.v = X q.l 0 (V ++ [v]) ∧ q.o = X q.l 0 (O ++ [o]) ∧ Sub q.l F := fun q hq => by
  obtain ⟨e1, e2, e3⟩ := B.el q hq
  have hl := B.lot_lt e3
  rw [X_low hl, X_low (by rw [← B.len]; exact hl)]
  exact ⟨e1, e2, e3⟩
theorem at_snoc {α : Type} {xs : List α} {x y : α} {i : Nat} (h : (xs ++ [x])[i]? = some y) : xs[i]? = some y ∨ (i = xs.length ∧ y = x) := by
  rcases Nat.lt_or_ge i xs.length with z | z
  · rw [List.getElem?_append_left z] at h; exact .inl h
  · rw [List.getElem?_append_right z] at h
    cases e : i - xs.length with
    | zero => rw [e] at h; cases h; exact .inr ⟨by omega, rfl⟩
    | succ m => rw [e] at h; cases h
theorem at_left {α : Type} {xs ys : List α} {y : α} {i : Nat} (h : xs[i]? = some y) : (xs ++ ys)[i]? = some y := by rw [List.getElem?_append_left (List.getElem?_eq_some_iff.mp h).1]; exact h
theorem Tri.snoc {q : Q4} {k : Nat} : ∀ {b : List Q4}, Tri b → Clear b q.v → q.h = 2 ^ k → q.v.testBit k = true → Tri (b ++ [q])
  | [], _, _, h1, h2 => ⟨⟨k, h1, h2, fun p hp => by cases hp⟩, trivial⟩
  | p :: b, ⟨⟨j, g1, g2, g3⟩, t⟩, hc, h1, h2 => by
    refine ⟨⟨j, g1, g2, fun r hr => ?_⟩, Tri.snoc t (fun r hr => hc r (List.mem_cons_of_mem _ hr)) h1 h2⟩
    rcases List.mem_append.mp hr with hr | hr
    · exact g3 r hr
    · rw [List.mem_singleton.mp hr]; exact hc p (List.mem_cons_self ..) j g1
/-- a case that the ones ahead make, as they have it -/
theorem BI.same (B : BI b V O F) {v o : Nat} (h : (red b v 0 0).1 = 0) (ho : (red b v 0 0).2.2 = o) : BI b (V ++ [v]) (O ++ [o]) F := by
  refine ⟨by rw [List.length_append, List.length_append, B.len]; rfl, B.tri, B.el_more v o, fun i x y hx hy => ?_, fun i hi => ?_⟩
  · rcases at_snoc hx with hx | ⟨e1, rfl⟩
    · rcases at_snoc hy with hy | ⟨e2, rfl⟩
      · exact B.all i x y hx hy
      · have := (List.getElem?_eq_some_iff.mp hx).1; rw [B.len] at this; omega
    · rcases at_snoc hy with hy | ⟨e2, rfl⟩
      · have := (List.getElem?_eq_some_iff.mp hy).1; rw [← B.len] at this; omega
      · have := red_zero B.tri h
        rw [ho] at this
        exact ⟨_, this⟩
  · obtain ⟨x, y, h1, h2, h3⟩ := B.free i hi
    exact ⟨x, y, at_left h1, at_left h2, h3⟩
/-- a free case -/
theorem BI.wide (B : BI b V O F) {v o : Nat} (h : (red b v 0 0).1 ≠ 0) : BI (b ++ [⟨HBt.lowb (red b v 0 0).1, (red b v 0 0).1, (red b v 0 0).2.1 ^^^ 2 ^ V.length, (red b v 0 0).2.2 ^^^ o⟩]) (V ++ [v]) (O ++ [o]) (F ||| 2 ^ V.length) := by
  obtain ⟨s, c⟩ := red0 v B.tri
  generalize hr : red b v 0 0 = r at h s c
  obtain ⟨left, taken, total⟩ := r
  dsimp only at h s c ⊢
  obtain ⟨k, l1, _, l2, _⟩ := HBt.lowb_spec (Nat.pos_of_ne_zero h)
  obtain ⟨e1, e2, e3⟩ := B.sp s
  have ht := B.lot_lt e3
  have mono : ∀ {l : Nat}, Sub l F → Sub l (F ||| 2 ^ V.length) := fun hl i hi => by rw [Nat.testBit_or, hl i hi]; rfl
  have new : Sp (b ++ [⟨HBt.lowb left, left, taken ^^^ 2 ^ V.length, total ^^^ o⟩]) v (2 ^ V.length) o := by
    have := (Sp.more (c := [⟨HBt.lowb left, left, taken ^^^ 2 ^ V.length, total ^^^ o⟩]) s).xor (Sp.last b ⟨HBt.lowb left, left, taken ^^^ 2 ^ V.length, total ^^^ o⟩)
    dsimp only at this
    rw [xx, ← Nat.xor_assoc, Nat.xor_self, Nat.zero_xor, ← Nat.xor_assoc, Nat.xor_self, Nat.zero_xor] at this
    exact this
  refine ⟨by rw [List.length_append, List.length_append, B.len]; rfl, Tri.snoc B.tri c l1 l2, fun q hq => ?_, fun i x y hx hy => ?_, fun i hi => ?_⟩
  · rcases List.mem_append.mp hq with hq | hq
    · obtain ⟨f1, f2, f3⟩ := B.el_more v o q hq
      exact ⟨f1, f2, mono f3⟩
    · rw [List.mem_singleton.mp hq]
      dsimp only
      refine ⟨?_, ?_, ?_⟩
      · rw [X_xor, X_low ht, ← e1, X_top, Nat.xor_assoc, Nat.xor_comm left v, ← Nat.xor_assoc, Nat.xor_self, Nat.zero_xor]
      · have ht2 : taken < 2 ^ O.length := by rw [← B.len]; exact ht
        rw [X_xor, X_low ht2, ← e2, B.len, X_top]
      · refine (mono e3).xor fun i hi => ?_
        rw [Nat.testBit_or, hi, Bool.or_true]
  · rcases at_snoc hx with hx | ⟨e1, rfl⟩
    · rcases at_snoc hy with hy | ⟨e2, rfl⟩
      · obtain ⟨l, hl⟩ := B.all i x y hx hy
        exact ⟨l, hl.more⟩
      · have := (List.getElem?_eq_some_iff.mp hx).1; rw [B.len] at this; omega
    · rcases at_snoc hy with hy | ⟨e2, rfl⟩
      · have := (List.getElem?_eq_some_iff.mp hy).1; rw [← B.len] at this; omega
      · exact ⟨_, new⟩
  · rw [Nat.testBit_or] at hi
    cases e : F.testBit i with
    | true =>
      obtain ⟨x, y, h1, h2, h3⟩ := B.free i e
      exact ⟨x, y, at_left h1, at_left h2, h3.more⟩
    | false =>
      rw [e, Bool.false_or] at hi
      have : V.length = i := by
        by_cases z : V.length = i
        · exact z
        · rw [Nat.testBit_two_pow_of_ne z] at hi; cases hi
      subst this
      refine ⟨v, o, by simp, ?_, new⟩
      rw [B.len]; simp
/-! what follows -/
theorem comb_go {z : Nat} : ∀ {V O L : List Nat} {k : Nat}, V.length = O.length → V.length = L.length → (∀ i v o l : Nat, z.testBit (k + i) = true → V[i]? = some v → O[i]? = some o → L[i]? = some l → Sp b v l o) → Sp b (X z k V) (X z k L) (X z k O)
  | [], [], [], _, _, _, _ => Sp.zero b
  | [], _ :: _, _, _, h, _, _ => by cases h
  | _ :: _, [], _, _, h, _, _ => by cases h
  | [], [], _ :: _, _, _, h, _ => by cases h
  | _ :: _, _ :: _, [], _, _, h, _ => by cases h
  | v :: V, o :: O, l :: L, k, h1, h2, h => by
    rw [X, X, X]
    refine Sp.xor ?_ (comb_go (by simpa using h1) (by simpa using h2) fun i v' o' l' hz a c d => h (i + 1) v' o' l' (by rw [show k + (i + 1) = k + 1 + i by omega]; exact hz) a c d)
    cases e : z.testBit k with
    | true => rw [if_pos rfl, if_pos rfl, if_pos rfl]; exact h 0 v o l e rfl rfl rfl
    | false => rw [if_neg Bool.false_ne_true, if_neg Bool.false_ne_true, if_neg Bool.false_ne_true]; exact Sp.zero b
theorem BI.comb (B : BI b V O F) (z : Nat) : ∃ l, Sp b (X z 0 V) l (X z 0 O) := by
  -- the lots of all cases, chosen one by one
  have : ∀ {V O : List Nat} {k : Nat}, V.length = O.length → (∀ i v o : Nat, V[i]? = some v → O[i]? = some o → ∃ l, Sp b v l o) → ∃ l, Sp b (X z k V) l (X z k O) := fun {V} => by
    induction V with
    | nil => intro O k h1 _; cases O with
      | nil => exact ⟨0, Sp.zero b⟩
      | cons _ _ => cases h1
    | cons v V ih => intro O k h1 h; cases O with
      | nil => cases h1
      | cons o O =>
        obtain ⟨l, hl⟩ := ih (O := O) (k := k + 1) (by simpa using h1) fun i v' o' a c => h (i + 1) v' o' a c
        obtain ⟨m, hm⟩ := h 0 v o rfl rfl
        rw [X, X]
        cases e : z.testBit k with
        | true => rw [if_pos rfl, if_pos rfl]; exact ⟨_, hm.xor hl⟩
        | false => rw [if_neg Bool.false_ne_true, if_neg Bool.false_ne_true]; exact ⟨_, (Sp.zero b).xor hl⟩
  exact this B.len B.all
def pows (n : Nat) : List Nat := (List.range n).map (2 ^ ·)
theorem pows_at {n i l : Nat} (h : (pows n)[i]? = some l) : l = 2 ^ i := by
  unfold pows at h
  rw [List.getElem?_map] at h
  have hi : i < n := by
    rcases Nat.lt_or_ge i n with z | z
    · exact z
    · rw [List.getElem?_eq_none (by simpa using z)] at h; cases h
  rw [List.getElem?_range hi] at h
  exact (Option.some.inj h).symm
theorem pows_succ (n : Nat) : pows (n + 1) = pows n ++ [2 ^ n] := by unfold pows; rw [List.range_succ, List.map_append]; rfl
theorem pows_len (n : Nat) : (pows n).length = n := by unfold pows; rw [List.length_map, List.length_range]
theorem X_pows_bit (z i : Nat) : ∀ n : Nat, (X z 0 (pows n)).testBit i = (decide (i < n) && z.testBit i)
  | 0 => by show (0 : Nat).testBit i = _; rw [Nat.zero_testBit]; rfl
  | n + 1 => by
    rw [pows_succ, X_snoc, pows_len, Nat.testBit_xor, X_pows_bit z i n]
    by_cases e : n = i
    · subst e
      cases h : z.testBit n with
      | true => rw [if_pos rfl, Nat.testBit_two_pow_self]; simp
      | false => rw [if_neg Bool.false_ne_true, Nat.zero_testBit]; simp
    · have h2 : ((if z.testBit n = true then 2 ^ n else 0) : Nat).testBit i = false := by
        split
        · exact Nat.testBit_two_pow_of_ne e
        · exact Nat.zero_testBit i
      rw [h2, Bool.xor_false]
      by_cases hi : i < n
      · rw [decide_eq_true hi, decide_eq_true (by omega : i < n + 1)]
      · rw [decide_eq_false hi, decide_eq_false (by omega : ¬ i < n + 1)]
theorem X_pows {z n : Nat} (h : z < 2 ^ n) : X z 0 (pows n) = z := Nat.eq_of_testBit_eq fun i => by
  rw [X_pows_bit]
  by_cases hi : i < n
  · rw [decide_eq_true hi, Bool.true_and]
  · rw [bit_hi h (by omega), Bool.and_false]
theorem BI.combF (B : BI b V O F) {z : Nat} (h : Sub z F) : Sp b (X z 0 V) z (X z 0 O) := by
  have h1 := comb_go (b := b) (z := z) (V := V) (O := O) (L := pows V.length) (k := 0) B.len (pows_len _).symm fun i v o l hz a c d => by
    rw [Nat.zero_add] at hz
    obtain ⟨x, y, e1, e2, e3⟩ := B.free i (h i hz)
    rw [a] at e1; cases e1
    rw [c] at e2; cases e2
    rw [pows_at d]; exact e3
  rwa [X_pows (B.lot_lt h)] at h1
/-- an even lot of nothing has no outcome -/
theorem BI.possible (B : BI b V O F) {z : Nat} (h : X z 0 V = 0) : X z 0 O = 0 := by
  obtain ⟨l, s⟩ := B.comb z
  rw [h] at s
  exact (s.clear B.tri fun q _ k _ => Nat.zero_testBit k).2.2
/-- free cases alone make nothing -/
theorem BI.indep (B : BI b V O F) {z : Nat} (h : Sub z F) (h0 : X z 0 V = 0) : z = 0 := by
  have s := B.combF h
  rw [h0] at s
  exact (s.clear B.tri fun q _ k _ => Nat.zero_testBit k).2.1
/-- a vector is made of the cases just if the base leaves nothing -/
theorem BI.forced_iff (B : BI b V O F) (v : Nat) : (red b v 0 0).1 = 0 ↔ ∃ z, z < 2 ^ V.length ∧ X z 0 V = v := by
  constructor
  · intro h
    obtain ⟨e1, _, e3⟩ := B.sp (red_zero B.tri h)
    exact ⟨_, B.lot_lt e3, e1.symm⟩
  · rintro ⟨z, _, rfl⟩
    obtain ⟨l, s⟩ := B.comb z
    rw [red_of B.tri s]
theorem BI.forced (B : BI b V O F) {v : Nat} (h : (red b v 0 0).1 = 0) : X (red b v 0 0).2.1 0 V = v ∧ (red b v 0 0).2.1 < 2 ^ V.length ∧ Sub (red b v 0 0).2.1 F ∧ X (red b v 0 0).2.1 0 O = (red b v 0 0).2.2 ∧
    (∀ z, X z 0 V = v → X z 0 O = (red b v 0 0).2.2) ∧ ∀ z, Sub z (red b v 0 0).2.1 → X z 0 V = 0 → z = 0 := by
  have s := red_zero B.tri h
  obtain ⟨e1, e2, e3⟩ := B.sp s
  refine ⟨e1.symm, B.lot_lt e3, e3, e2.symm, fun z hz => ?_, fun z hz h0 => B.indep (fun i hi => e3 i (hz i hi)) h0⟩
  obtain ⟨l, t⟩ := B.comb z
  rw [hz] at t
  rw [red_of B.tri t]
end
/-! the sums of all lots -/
def sumsL (W : List Nat) : List Nat := W.foldl (fun s w => s ++ s.map (· ^^^ w)) [0]
theorem add_xor {n z : Nat} (h : z < 2 ^ n) : 2 ^ n + z = z ^^^ 2 ^ n := by
  have e := Nat.two_pow_add_eq_or_of_lt h 1
  rw [Nat.mul_one] at e
  rw [e]
  refine Nat.eq_of_testBit_eq fun i => ?_
  rw [Nat.testBit_or, Nat.testBit_xor]
  by_cases hi : n = i
  · subst hi; rw [bit_hi h (Nat.le_refl _), Nat.testBit_two_pow_self]; rfl
  · rw [Nat.testBit_two_pow_of_ne hi]; cases z.testBit i <;> rfl
theorem sumsL_snoc (W : List Nat) (w : Nat) : sumsL (W ++ [w]) = sumsL W ++ (sumsL W).map (· ^^^ w) := by unfold sumsL; rw [List.foldl_append]; rfl
theorem list_snoc {α : Type} {P : List α → Prop} (h0 : P []) (hs : ∀ l x, P l → P (l ++ [x])) : ∀ l, P l := fun l => by
  have : ∀ m : List α, P m.reverse := fun m => by
    induction m with
    | nil => exact h0
    | cons x m ih => rw [List.reverse_cons]; exact hs _ _ ih
  have := this l.reverse
  rwa [List.reverse_reverse] at this
theorem sumsL_eq : ∀ W : List Nat, sumsL W = (List.range (2 ^ W.length)).map fun z => X z 0 W := by
  refine list_snoc rfl fun W w ih => ?_
  rw [sumsL_snoc, ih, List.length_append, List.length_singleton, Nat.pow_succ, Nat.mul_two, List.range_add, List.map_append, List.map_map, List.map_map]
  congr 1
  · refine List.map_congr_left fun z hz => ?_
    exact (X_low (List.mem_range.mp hz)).symm
  · refine List.map_congr_left fun z hz => ?_
    have hz := List.mem_range.mp hz
    show X z 0 W ^^^ w = X (2 ^ W.length + z) 0 (W ++ [w])
    rw [add_xor hz, X_xor, X_low hz, X_top]
theorem sumsL_len (W : List Nat) : (sumsL W).length = 2 ^ W.length := by rw [sumsL_eq, List.length_map, List.length_range]
theorem sumsL_getD {W : List Nat} {z : Nat} (h : z < 2 ^ W.length) : (sumsL W).getD z 0 = X z 0 W := by
  rw [sumsL_eq, List.getD_eq_getElem?_getD, List.getElem?_map, List.getElem?_range h]; rfl
theorem X_mod (m z : Nat) (W : List Nat) : X z 0 W % 2 ^ m = X z 0 (W.map (· % 2 ^ m)) := X_map (f := fun x => x % 2 ^ m) (Nat.zero_mod _) (fun a b => Nat.xor_mod_two_pow) z 0 W
theorem X_div (m z : Nat) (W : List Nat) : X z 0 W / 2 ^ m = X z 0 (W.map (· / 2 ^ m)) := X_map (f := fun x => x / 2 ^ m) (Nat.zero_div _) (fun a b => Nat.xor_div_two_pow) z 0 W
theorem X_bit (k z : Nat) : ∀ (j : Nat) (V : List Nat), (∀ v ∈ V, v.testBit k = true) → (X z j V).testBit k = decide (((List.range V.length).countP fun i => z.testBit (j + i)) % 2 = 1)
  | j, [], _ => by rw [X, Nat.zero_testBit]; rfl
  | j, v :: V, h => by
    rw [X, Nat.testBit_xor, X_bit k z (j + 1) V fun w hw => h w (List.mem_cons_of_mem _ hw), List.length_cons, List.range_succ_eq_map, List.countP_cons, List.countP_map]
    have e : (fun i => z.testBit (j + 1 + i)) = ((fun i => z.testBit (j + i)) ∘ Nat.succ) := by funext i; show _ = z.testBit (j + (i + 1)); rw [show j + 1 + i = j + (i + 1) by omega]
    rw [e, Nat.add_zero]
    generalize List.countP ((fun i => z.testBit (j + i)) ∘ Nat.succ) (List.range V.length) = m
    cases hz : z.testBit j with
    | false =>
      rw [if_neg Bool.false_ne_true, if_neg Bool.false_ne_true, Nat.zero_testBit, Bool.false_xor, Nat.add_zero]
    | true =>
      rw [if_pos rfl, if_pos rfl, h v (List.mem_cons_self ..)]
      by_cases hm : m % 2 = 1
      · rw [decide_eq_true hm, decide_eq_false (by omega : ¬ (m + 1) % 2 = 1)]; rfl
      · rw [decide_eq_false hm, decide_eq_true (by omega : (m + 1) % 2 = 1)]; rfl
end HGf
/-! len(o), o an instance with an own __len__ -/
namespace HLn
open PySem PySem.Spec PyProof.Rows L2 HX
def rLenO (C : Addr) (sp : Sp) : List V → Hp → VK → Prop := fun xs H Q => ∃ a dx fs, xs = [.ref a] ∧ H a = some (.ins C dx fs) ∧ sp [.ref a] H (fun v H' => ∃ i : Int, v = .int i ∧ (0 ≤ i ∧ i < 2 ^ 63) ∧ Q v H') E0
section
variable {X : Cx} {K : PySem.W.Frag} {n : Nat} {f C : Addr} {fd : FuncData} {ps : List Str} {sp : Sp}
theorem call_lenO (M : Meth K C "__len__" f) (F : FnOk X.prog X.w X.K X.mg X.base CX0 n f fd ps sp) (hb : Binds X.K fd ps []) (hr : Room (n + 1) X.A) (hK : X.K = K := by rfl) : CallR X (.builtin "len") (rLenO C sp) := by
  cases hK
  intro pins s σ H xs us Q I rx h
  obtain ⟨a, dx, fs, rfl, ha, q⟩ := h
  obtain rfl := Vals.ref1 rx
  obtain ⟨mA, J, _⟩ := ins_get I.hok ha
  obtain ⟨od, J, _⟩ := J.look
  obtain ⟨m, hF⟩ := I.fr
  refine PySem.W.len_K hF I.ok.mod.kin J M.at_ M.fn ?_
  have hl : 1 = ps.length := F.len [.ref a] H _ E0 q
  have r2 : Vals [V.ref a] [Value.ref a] := .cons rfl .nil
  refine wpAny_call (codeAny_mono (F.run X.A.in1 X.stack s H ⟨[.ref a], []⟩ [.ref a] [.ref a] (fun v H' => ∃ i : Int, v = .int i ∧ (0 ≤ i ∧ i < 2 ^ 63) ∧ Q v H') E0 hr.in1 I.env0.in1 (by
    have := hb s [.ref a] I.kIn (by simpa using hl)
    simpa using this) r2 q) fun r s' hq => ?_)
  cases r with
  | error e => exact hq.elim
  | ok fl =>
    cases fl with
    | ret w =>
      obtain ⟨v, H', I', rv, i, ev, hi, qq⟩ := I.after hq
      subst ev
      obtain ⟨u, rfl⟩ := rv
      exact ⟨hi, .int i, H', I'.tok _, ⟨_, rfl⟩, qq⟩
    | next => exact hq.elim
    | brk => exact hq.elim
    | cont => exact hq.elim
end
section
open HD
variable {K : PySem.W.Frag} {c : Wd K} {ρ : List S} {n : Nat} {ds : List I} {Q : QI}
theorem lenO_ {C : Addr} {sp : SpD} {it : I} {fs : List (Str × D)} (e : it.val = .ins C fs) (h : sp [.ins C fs] n (fun r n2 => ∃ i : Int, r = .v (.int i) ∧ (0 ≤ i ∧ i < 2 ^ 63) ∧ Q (.v (.int i)) (frz [it] ρ) n2) fun _ _ _ => False) : GB c ρ n ds (rLenO C (lift K sp)) [it] Q := fun σ H vs xs F hl s' k => by
  have s1 := s'
  obtain ⟨L1, B1, s1⟩ := s1
  match xs, hl, s', s1 with
  | [x], hl, s', s1 =>
    obtain ⟨B', lx, t2, mv, hx⟩ := s1.it1
    obtain ⟨a, dx, fv, rfl, ha, rf⟩ := hx.ins s1.sl e
    obtain ⟨L, B, s2, ra⟩ := items (is := [it]) hl s'
    refine ⟨a, dx, fv, rfl, ha, ?_⟩
    rw [List.map_cons, List.map_nil, e] at ra
    refine ⟨⟨c.g, c.k, c.ns, Mo c (L ++ B), H⟩, n, _, _, _, ⟨rfl, s2.hat, .inl s2.mg, .inl s2.ml, s2.at, ra, fun it m v H2 q2 k2 h2 r2 => ?_, fun C fs n' x H' z => z.elim⟩, h⟩
    obtain ⟨i, rfl, hi, q3⟩ := q2
    have s3 := s2.kept k2 h2
    cases r2
    exact ⟨i, rfl, hi, k _ _ _ _ _ q3 ⟨L, B, s3.pushR (.int i)⟩⟩
/-- tuple(range(n)) -/
theorem tupRg_ {te : TE} (h : GE c ρ n ds te fun it ρ' n' => ∃ m : Nat, it = .v (.int (m : Int)) ∧ m ≤ 100000 ∧ Q (.v (.tup (HBt.rngN m))) ρ' n') : GE c ρ n ds (tTupRg (tRg1 te)) Q := fun σ H vs F s k =>
  h σ H vs _ s fun it ρ' n' v H' ⟨m, e, hm, q⟩ s' => by
    subst e
    obtain ⟨L, B, s2, r⟩ := items (is := [.v (.int (m : Int))]) (ws := [v]) rfl s'
    cases r with
    | cons r0 r1 =>
    cases r0
    refine ⟨(m : Int), rfl, RgOk.of_le (by omega) (by omega) (by omega) (by omega), fun p hp => ?_⟩
    have e1 : rgV 0 (m : Int) = ((List.range m).map fun (i : Nat) => (i : Int)).map V.int := by
      unfold rgV
      rw [show ((m : Int) - 0).toNat = m by omega, List.map_map]
      refine List.map_congr_left fun i _ => ?_
      show V.int (0 + (i : Int)) = V.int (i : Int)
      rw [Int.zero_add]
    have e2 : HBt.rngN m = ((List.range m).map fun (i : Nat) => (i : Int)).map D.int := by
      unfold HBt.rngN
      rw [List.map_map]; rfl
    rw [e1]
    refine k _ _ _ _ _ q ⟨L, B, ?_⟩
    rw [e2]
    exact s2.pushT hp (RA.ofInts _)
end
end HLn
/-! ranks of chosen vectors, and choices of cases -/
namespace HGf
open HBt
/-- two bases with the same heads and vectors -/
def Hv (b c : List Q4) : Prop := b.map (fun q => (q.h, q.v)) = c.map (fun q => (q.h, q.v))
theorem red_hv : ∀ {b c : List Q4} (v t o t' o' : Nat), Hv b c → (red b v t o).1 = (red c v t' o').1
  | [], [], _, _, _, _, _, _ => rfl
  | [], _ :: _, _, _, _, _, _, h => by cases h
  | _ :: _, [], _, _, _, _, _, h => by cases h
  | p :: b, q :: c, v, t, o, t', o', h => by
    have h' : (p.h, p.v) :: b.map (fun q => (q.h, q.v)) = (q.h, q.v) :: c.map (fun q => (q.h, q.v)) := h
    injection h' with h1 h2
    injection h1 with h3 h4
    rw [red, red, h3, h4]
    split
    · exact red_hv v t o t' o' h2
    · exact red_hv _ _ _ _ _ h2
theorem Hv.len {b c : List Q4} (h : Hv b c) : b.length = c.length := by
  have := congrArg List.length h
  rwa [List.length_map, List.length_map] at this
/-- one vector more -/
def stp (b : List Q4) (v : Nat) : List Q4 := if (red b v 0 0).1 = 0 then b else b ++ [⟨lowb (red b v 0 0).1, (red b v 0 0).1, 0, 0⟩]
theorem red_0 : ∀ (b : List Q4) (t o : Nat), (red b 0 t o).1 = 0
  | [], _, _ => rfl
  | q :: b, t, o => by rw [red, Nat.zero_and, if_pos rfl]; exact red_0 b t o
theorem stp_0 (b : List Q4) : stp b 0 = b := by rw [stp, if_pos (red_0 b 0 0)]
theorem X_zeros (z : Nat) : ∀ (k : Nat) (O : List Nat), (∀ o ∈ O, o = 0) → X z k O = 0
  | _, [], _ => rfl
  | k, o :: O, h => by
    rw [X, X_zeros z (k + 1) O fun o ho => h o (List.mem_cons_of_mem _ ho), h o (List.mem_cons_self ..)]
    split <;> rfl
theorem count_or (F n m : Nat) (hm : m ≤ n) : ((List.range m).countP fun i => (F ||| 2 ^ n).testBit i) = (List.range m).countP fun i => F.testBit i := by
  refine List.countP_congr fun i hi => ?_
  have hi := List.mem_range.mp hi
  rw [Nat.testBit_or, Nat.testBit_two_pow_of_ne (by omega), Bool.or_false]
theorem rk_inv : ∀ M : List Nat, ∃ (c : List Q4) (F : Nat), Hv (M.foldl stp []) c ∧ BI c M (M.map fun _ => 0) F ∧ (M.foldl stp []).length = (List.range M.length).countP fun i => F.testBit i := by
  refine list_snoc ⟨[], 0, rfl, BI.nil, rfl⟩ fun M v ⟨c, F, h1, B, h3⟩ => ?_
  rw [List.foldl_append, List.foldl_cons, List.foldl_nil, List.map_append, List.map_cons, List.map_nil, List.length_append, List.length_singleton, List.range_succ, stp, red_hv v 0 0 0 0 h1]
  generalize hb : M.foldl stp [] = b at h1 h3 ⊢
  have z0 : ∀ o ∈ M.map (fun _ => 0), o = 0 := fun o ho => by obtain ⟨_, _, rfl⟩ := List.mem_map.mp ho; rfl
  by_cases h : (red c v 0 0).1 = 0
  · rw [if_pos h]
    have s := red_zero B.tri h
    have ho : (red c v 0 0).2.2 = 0 := by
      rw [(B.sp s).2.1]
      exact X_zeros _ _ _ z0
    refine ⟨c, F, h1, B.same h ho, ?_⟩
    rw [List.countP_append, List.countP_singleton, h3]
    have : F.testBit M.length = false := by
      cases hF : F.testBit M.length with
      | false => rfl
      | true => exact absurd (B.F_lt hF) (Nat.lt_irrefl _)
    rw [this]; rfl
  · rw [if_neg h]
    refine ⟨_, _, ?_, B.wide h, ?_⟩
    · rw [Hv, List.map_append, List.map_append, h1]
      rfl
    · rw [List.length_append, List.countP_append, List.countP_singleton, h3, count_or F M.length M.length (Nat.le_refl _), Nat.testBit_or, Nat.testBit_two_pow_self, Bool.or_true]
      rfl
/-- the vectors of a lot, and nothing elsewhere -/
def msk (lot : Nat) : Nat → List Nat → List Nat
  | _, [] => []
  | k, v :: vs => (if lot.testBit k then v else 0) :: msk lot (k + 1) vs
theorem msk_len (lot : Nat) : ∀ (k : Nat) (V : List Nat), (msk lot k V).length = V.length
  | _, [] => rfl
  | k, v :: vs => by rw [msk, List.length_cons, List.length_cons, msk_len]
theorem X_msk (lot z : Nat) : ∀ (k : Nat) (V : List Nat), X z k (msk lot k V) = X (z &&& lot) k V
  | _, [] => rfl
  | k, v :: vs => by
    rw [msk, X, X, X_msk lot z (k + 1) vs, Nat.testBit_and]
    cases z.testBit k <;> cases lot.testBit k <;> rfl
theorem msk_at (lot : Nat) : ∀ (k : Nat) (V : List Nat) (i : Nat), (msk lot k V)[i]? = V[i]?.map fun v => if lot.testBit (k + i) then v else 0
  | _, [], i => by simp [msk]
  | k, v :: vs, 0 => by simp [msk]
  | k, v :: vs, i + 1 => by
    rw [msk, List.getElem?_cons_succ, msk_at lot (k + 1) vs i, List.getElem?_cons_succ]
    rw [show k + 1 + i = k + (i + 1) by omega]
/-- a walk over a lot's numbers is a walk over its masked vectors -/
theorem fold_lot {β : Type} (f : β → Nat → β) (h0 : ∀ b, f b 0 = b) (lot : Nat) : ∀ (V : List Nat) (k : Nat) (b : β), (((List.range' k V.length).filter fun i => lot.testBit i).map fun i => V.getD (i - k) 0).foldl f b = (msk lot k V).foldl f b
  | [], _, _ => rfl
  | v :: V, k, b => by
    rw [List.length_cons, List.range'_succ, msk, List.foldl_cons, List.filter_cons]
    have e : ∀ (l : List Nat), (∀ i ∈ l, k + 1 ≤ i) → (l.map fun i => (v :: V).getD (i - k) 0) = l.map fun i => V.getD (i - (k + 1)) 0 := fun l hl => List.map_congr_left fun i hi => by
      have := hl i hi
      rw [show i - k = (i - (k + 1)) + 1 by omega]
      rfl
    have hm : ∀ i ∈ (List.range' (k + 1) V.length).filter fun i => lot.testBit i, k + 1 ≤ i := fun i hi => (List.mem_range'_1.mp (List.mem_filter.mp hi).1).1
    cases hk : lot.testBit k with
    | false => 
      rw [if_neg (by decide), if_neg (by decide), h0, e _ hm]
      exact fold_lot f h0 lot V (k + 1) b
    | true =>
      rw [if_pos rfl, if_pos rfl, List.map_cons, List.foldl_cons, Nat.sub_self, e _ hm]
      exact fold_lot f h0 lot V (k + 1) _
theorem nums_range {lot n : Nat} (h : lot < 2 ^ n) (hn : n ≤ 64) : nums lot = (List.range n).filter fun i => lot.testBit i := by
  unfold nums
  exact range_filter hn fun i hi => Nat.testBit_lt_two_pow (Nat.lt_of_lt_of_le h (Nat.pow_le_pow_right (by decide) hi))
theorem fold_nums {β : Type} (f : β → Nat → β) (h0 : ∀ b, f b 0 = b) {lot : Nat} {V : List Nat} (h : lot < 2 ^ V.length) (hn : V.length ≤ 64) (b : β) : ((nums lot).map fun i => V.getD i 0).foldl f b = (msk lot 0 V).foldl f b := by
  rw [nums_range h hn, List.range_eq_range']
  exact fold_lot f h0 lot V 0 b
theorem X_foldl (z : Nat) : ∀ (V : List Nat) (k a : Nat), (msk z k V).foldl (· ^^^ ·) a = a ^^^ X z k V
  | [], _, a => by rw [msk, List.foldl_nil, X, Nat.xor_zero]
  | v :: V, k, a => by rw [msk, List.foldl_cons, X_foldl z V (k + 1), X, Nat.xor_assoc]
theorem fold_X {lot : Nat} {V : List Nat} (h : lot < 2 ^ V.length) (hn : V.length ≤ 64) : ((nums lot).map fun i => V.getD i 0).foldl (· ^^^ ·) 0 = X lot 0 V := by
  rw [fold_nums _ (fun b => Nat.xor_zero b) h hn, X_foldl, Nat.zero_xor]
/-! counting -/
theorem count_sub {α : Type} {p q : α → Bool} : ∀ {l : List α}, (∀ x ∈ l, p x = true → q x = true) → l.countP q = l.countP p + l.countP fun x => q x && !p x
  | [], _ => rfl
  | x :: l, h => by
    rw [List.countP_cons, List.countP_cons, List.countP_cons, count_sub fun y hy => h y (List.mem_cons_of_mem _ hy)]
    have := h x (List.mem_cons_self ..)
    cases hp : p x <;> cases hq : q x
    · simp
    · simp; omega
    · rw [hp, hq] at this; exact absurd (this rfl) (by decide)
    · simp; omega
theorem count_zero {r : Nat → Bool} {n : Nat} : ((List.range n).countP r) = 0 ↔ ∀ i, i < n → r i = false := by
  rw [List.countP_eq_zero]
  constructor
  · intro h i hi
    have := h i (List.mem_range.mpr hi)
    cases hr : r i with
    | false => rfl
    | true => exact absurd hr this
  · intro h i hi
    rw [h i (List.mem_range.mp hi)]
    decide
theorem count_one {r : Nat → Bool} : ∀ {n : Nat}, ((List.range n).countP r) = 1 ↔ ∃ j, j < n ∧ r j = true ∧ ∀ i, i < n → r i = true → i = j
  | 0 => by
    constructor
    · intro h; cases h
    · rintro ⟨j, hj, _⟩; omega
  | n + 1 => by
    rw [List.range_succ, List.countP_append, List.countP_singleton]
    cases hr : r n with
    | false =>
      rw [if_neg (by decide), Nat.add_zero, count_one]
      constructor
      · rintro ⟨j, h1, h2, h3⟩
        refine ⟨j, by omega, h2, fun i hi h => h3 i ?_ h⟩
        have : i ≠ n := fun e => by rw [e, hr] at h; cases h
        omega
      · rintro ⟨j, h1, h2, h3⟩
        have : j ≠ n := fun e => by rw [e, hr] at h2; cases h2
        exact ⟨j, by omega, h2, fun i hi h => h3 i (by omega) h⟩
    | true =>
      rw [if_pos rfl]
      constructor
      · intro h
        have h0 := count_zero.mp (show (List.range n).countP r = 0 by omega)
        refine ⟨n, Nat.lt_succ_self n, hr, fun i hi h => ?_⟩
        by_cases e : i = n
        · exact e
        · rw [h0 i (by omega)] at h; cases h
      · rintro ⟨j, h1, h2, h3⟩
        have e := h3 n (Nat.lt_succ_self n) hr
        have h0 := count_zero.mpr (show ∀ i, i < n → r i = false from fun i hi => by
          cases h : r i with
          | false => rfl
          | true => have := h3 i (by omega) h; omega)
        omega
theorem sub_of_and {z lot : Nat} (h : z &&& lot = z) : Sub z lot := fun i hi => by
  rw [← h, Nat.testBit_and] at hi
  exact (Bool.and_eq_true_iff.mp hi).2
theorem and_of_sub {z lot : Nat} (h : Sub z lot) : z &&& lot = z := Nat.eq_of_testBit_eq fun i => by
  rw [Nat.testBit_and]
  have := h i
  cases hz : z.testBit i with
  | false => rfl
  | true => rw [this hz]; rfl
theorem sub_le {z lot : Nat} (h : Sub z lot) : z ≤ lot := by
  rw [← and_of_sub h]
  exact Nat.and_le_right
theorem sub_pow {i lot : Nat} (h : lot.testBit i = true) : Sub (2 ^ i) lot := fun j hj => by
  rw [Nat.testBit_two_pow] at hj
  rw [← of_decide_eq_true hj]; exact h
/-- the rank of a lot of vectors is one less than their number just if no other lot of them makes nothing -/
theorem rank_one {V : List Nat} {lot : Nat} (hl : lot < 2 ^ V.length) (hX : X lot 0 V = 0) (hn : V.length ≤ 64) : ((nums lot).map fun i => V.getD i 0).foldl stp [] |>.length |> fun r => (r + 1 = (nums lot).length ↔ lot ≠ 0 ∧ ∀ z, Sub z lot → X z 0 V = 0 → z = 0 ∨ z = lot) := by
  show ((((nums lot).map fun i => V.getD i 0).foldl stp []).length + 1 = (nums lot).length ↔ _)
  rw [fold_nums stp stp_0 hl hn]
  obtain ⟨c, F, h1, B, h3⟩ := rk_inv (msk lot 0 V)
  rw [msk_len] at h3
  rw [h3, nums_count hl hn]
  have hz : ∀ z, Sub z lot → X z 0 (msk lot 0 V) = X z 0 V := fun z h => by rw [X_msk, and_of_sub h]
  have hF : Sub F lot := fun i hi => by
    cases hl2 : lot.testBit i with
    | true => rfl
    | false =>
      obtain ⟨v, o, e1, e2, s⟩ := B.free i hi
      rw [msk_at, Nat.zero_add, hl2] at e1
      have e3 := (B.sp s).1
      have : v = 0 := by
        cases hV : V[i]? with
        | none => rw [hV] at e1; cases e1
        | some x => rw [hV] at e1; injection e1 with e1; exact e1.symm
      have := B.indep (z := 2 ^ i) (sub_pow hi) (by rw [← e3, this])
      have := Nat.two_pow_pos i
      omega
  rw [count_sub (p := fun i => F.testBit i) (q := fun i => lot.testBit i) fun i _ h => hF i h]
  have hind : ∀ z, Sub z F → X z 0 V = 0 → z = 0 := fun z h e => B.indep h (by rw [hz z fun i hi => hF i (h i hi)]; exact e)
  constructor
  · intro h
    obtain ⟨j, hj1, hj2, hj3⟩ := count_one.mp (show (List.range V.length).countP (fun i => lot.testBit i && !F.testBit i) = 1 by omega)
    have hj4 : lot.testBit j = true ∧ F.testBit j = false := by
      obtain ⟨a, b⟩ := Bool.and_eq_true_iff.mp hj2
      exact ⟨a, by simpa using b⟩
    refine ⟨fun e => (by rw [e, Nat.zero_testBit] at hj4; exact absurd hj4.1 (by decide)), fun z hs h0 => ?_⟩
    have key : ∀ y, Sub y lot → y.testBit j = false → Sub y F := fun y hy hb i hi => by
      cases hFi : F.testBit i with
      | true => rfl
      | false =>
        have hli := hy i hi
        have := hj3 i (Decidable.byContradiction fun hge => by rw [bit_hi hl (by omega)] at hli; cases hli) (by rw [hli, hFi]; rfl)
        rw [this, hb] at hi; cases hi
    cases hb : z.testBit j with
    | false => exact .inl (hind z (key z hs hb) h0)
    | true =>
      refine .inr (xor_eq0 (hind _ (key (z ^^^ lot) (Sub.xor hs fun _ h => h) ?_) ?_))
      · rw [Nat.testBit_xor, hb, hj4.1]; rfl
      · rw [X_xor, h0, hX]; rfl
  · rintro ⟨hne, hall⟩
    have : (List.range V.length).countP (fun i => lot.testBit i && !F.testBit i) = 1 := by
      refine count_one.mpr ?_
      have hex : ∃ j, lot.testBit j = true ∧ F.testBit j = false := Classical.byContradiction fun hno => by
        have : Sub lot F := fun i hi => by
          cases hFi : F.testBit i with
          | true => rfl
          | false => exact absurd ⟨i, hi, hFi⟩ hno
        exact hne (hind lot this hX)
      obtain ⟨j, hj1, hj2⟩ := hex
      refine ⟨j, Decidable.byContradiction fun hge => (by rw [bit_hi hl (by omega)] at hj1; cases hj1), by rw [hj1, hj2]; rfl, fun i hi hr => ?_⟩
      obtain ⟨hi1, hi2⟩ := Bool.and_eq_true_iff.mp hr
      have hi2 : F.testBit i = false := by simpa using hi2
      refine Decidable.byContradiction fun hij => ?_
      have hv : V[i]? = some V[i] := List.getElem?_eq_getElem hi
      have hm : (msk lot 0 V)[i]? = some V[i] := by rw [msk_at, hv, Nat.zero_add, hi1]; rfl
      have ho : ((msk lot 0 V).map fun _ => 0)[i]? = some 0 := by rw [List.getElem?_map, hm]; rfl
      obtain ⟨l, s⟩ := B.all i _ _ hm ho
      obtain ⟨e1, _, e3⟩ := B.sp s
      have hs : Sub l lot := fun k hk => hF k (e3 k hk)
      have hli : l.testBit i = false := by
        cases h : l.testBit i with
        | false => rfl
        | true => rw [e3 i h] at hi2; cases hi2
      have hlj : l.testBit j = false := by
        cases h : l.testBit j with
        | false => rfl
        | true => rw [e3 j h] at hj2; cases hj2
      have h0 : X (l ^^^ 2 ^ i) 0 V = 0 := by
        rw [X_xor, ← hz l hs, ← e1, X_pow (Nat.zero_le _) (by rw [Nat.sub_zero]; exact hv), Nat.xor_self]
      rcases hall _ (Sub.xor hs (sub_pow hi1)) h0 with h | h
      · have := congrArg (fun x => x.testBit i) h
        rw [show (l ^^^ 2 ^ i).testBit i = true by rw [Nat.testBit_xor, hli, Nat.testBit_two_pow_self]; rfl, Nat.zero_testBit] at this
        cases this
      · have := congrArg (fun x => x.testBit j) h
        rw [show (l ^^^ 2 ^ i).testBit j = false by rw [Nat.testBit_xor, hlj, Nat.testBit_two_pow_of_ne hij]; rfl, hj1] at this
        cases this
    omega
/-! choices -/
/-- the lot of numbers E that a lot of E's places names -/
def spread (E : List Nat) (y : Nat) : Nat := X y 0 (E.map (2 ^ ·))
theorem spread_xor (E : List Nat) (a b : Nat) : spread E (a ^^^ b) = spread E a ^^^ spread E b := X_xor a b 0 _
theorem X_spread {V E : List Nat} (hE : ∀ i ∈ E, i < V.length) (y : Nat) : X (spread E y) 0 V = X y 0 (E.map fun i => V.getD i 0) := by
  rw [spread, X_map (f := fun l => X l 0 V) (X_zero 0 V) (fun a b => X_xor a b 0 V) y 0, List.map_map]
  congr 1
  refine List.map_congr_left fun i hi => ?_
  have h := hE i hi
  show X (2 ^ i) 0 V = _
  rw [X_pow (v := V[i]) (Nat.zero_le _) (by rw [Nat.sub_zero]; exact List.getElem?_eq_getElem h), List.getD_eq_getElem?_getD, List.getElem?_eq_getElem h]
  rfl
theorem Xpow_bit (y j : Nat) : ∀ (E : List Nat) (k : Nat), E.Nodup → ((X y k (E.map (2 ^ ·))).testBit j = true ↔ ∃ i, E[i]? = some j ∧ y.testBit (k + i) = true)
  | [], k, _ => by
    rw [List.map_nil, X, Nat.zero_testBit]
    constructor
    · intro h; cases h
    · rintro ⟨i, h, _⟩; cases h
  | e :: E, k, hn => by
    obtain ⟨h1, h2⟩ := List.nodup_cons.mp hn
    rw [List.map_cons, X, Nat.testBit_xor]
    have ih := Xpow_bit y j E (k + 1) h2
    by_cases hj : e = j
    · have hno : (X y (k + 1) (E.map (2 ^ ·))).testBit j = false := by
        cases hx : (X y (k + 1) (E.map (2 ^ ·))).testBit j with
        | false => rfl
        | true =>
          obtain ⟨i, hi, _⟩ := ih.mp hx
          rw [hj] at h1
          exact absurd (List.mem_of_getElem? hi) h1
      rw [hno, Bool.xor_false]
      constructor
      · intro h
        cases hy : y.testBit k with
        | true => exact ⟨0, by rw [hj]; rfl, hy⟩
        | false => rw [hy, if_neg (by decide), Nat.zero_testBit] at h; cases h
      · rintro ⟨i, hi, hy⟩
        cases i with
        | zero => rw [Nat.add_zero] at hy; rw [hy, if_pos rfl, hj, Nat.testBit_two_pow_self]
        | succ i => rw [List.getElem?_cons_succ, ] at hi; rw [hj] at h1; exact absurd (List.mem_of_getElem? hi) h1
    · have h0 : (if y.testBit k = true then 2 ^ e else 0).testBit j = false := by
        split
        · exact Nat.testBit_two_pow_of_ne hj
        · exact Nat.zero_testBit j
      rw [h0, Bool.false_xor, ih]
      constructor
      · rintro ⟨i, hi, hy⟩; exact ⟨i + 1, hi, by rw [← hy]; congr 1; omega⟩
      · rintro ⟨i, hi, hy⟩
        cases i with
        | zero => injection hi with hi; exact absurd hi hj
        | succ i => exact ⟨i, hi, by rw [← hy]; congr 1; omega⟩
theorem spread_bit {E : List Nat} (hn : E.Nodup) (y j : Nat) : (spread E y).testBit j = true ↔ ∃ i, E[i]? = some j ∧ y.testBit i = true := by
  rw [spread, Xpow_bit y j E 0 hn]
  constructor
  · rintro ⟨i, h, h2⟩; exact ⟨i, h, by rwa [Nat.zero_add] at h2⟩
  · rintro ⟨i, h, h2⟩; exact ⟨i, h, by rwa [Nat.zero_add]⟩
theorem spread_zero {E : List Nat} (hn : E.Nodup) {y : Nat} (hy : y < 2 ^ E.length) (h : spread E y = 0) : y = 0 := Nat.eq_of_testBit_eq fun i => by
  rw [Nat.zero_testBit]
  cases hi : y.testBit i with
  | false => rfl
  | true =>
    have hl : i < E.length := Decidable.byContradiction fun hge => by rw [bit_hi hy (by omega)] at hi; cases hi
    have := (spread_bit hn y E[i]).mpr ⟨i, List.getElem?_eq_getElem hl, hi⟩
    rw [h, Nat.zero_testBit] at this
    cases this
theorem spread_sub {E : List Nat} (hn : E.Nodup) {lot : Nat} (hE : ∀ i ∈ E, lot.testBit i = true) (y : Nat) : Sub (spread E y) lot := fun j hj => by
  obtain ⟨i, hi, _⟩ := (spread_bit hn y j).mp hj
  exact hE j (List.mem_of_getElem? hi)
theorem spread_full {E : List Nat} (hn : E.Nodup) {lot : Nat} (hE : ∀ i, lot.testBit i = true ↔ i ∈ E) : spread E (2 ^ E.length - 1) = lot := Nat.eq_of_testBit_eq fun j => by
  have h := spread_bit hn (2 ^ E.length - 1) j
  cases hj : lot.testBit j with
  | true =>
    obtain ⟨i, hi⟩ := List.getElem?_of_mem ((hE j).mp hj)
    exact h.mpr ⟨i, hi, by rw [Nat.testBit_two_pow_sub_one]; exact decide_eq_true (List.getElem?_eq_some_iff.mp hi).1⟩
  | false =>
    cases hs : (spread E (2 ^ E.length - 1)).testBit j with
    | false => rfl
    | true =>
      obtain ⟨i, hi, _⟩ := h.mp hs
      rw [(hE j).mpr (List.mem_of_getElem? hi)] at hj; cases hj
end HGf
/-! comprehensions with two clauses -/
namespace HD
open PySem PySem.Spec PyProof.Rows L2 HX
section
variable {K : PySem.W.Frag} {c : Wd K} {ρ : List S} {n : Nat} {ds : List I} {L B : List Addr} {σ : L2.St} {H H' : Hp} {vs : List V} {v : V} {p : Addr}
theorem wipe_at : ∀ {own : List Nat} {σ : L2.St} {m : Nat}, m ∈ own → m < σ.length → (wipe σ own)[m]? = some none
  | [], _, _, h, _ => by cases h
  | k :: is, σ, m, hm, hl => by
    unfold wipe
    by_cases ek : k = m
    · subst ek; rw [List.getElem?_set_self (by rw [wipe_len]; exact hl)]
    · rw [List.getElem?_set_ne ek]
      refine wipe_at ?_ hl
      rcases List.mem_cons.mp hm with z | z
      · exact absurd z.symm ek
      · exact z
theorem wipe_sub {own1 own : List Nat} (hv : ∀ i ∈ own1, i ∈ own) (σ : L2.St) : wipe (wipe σ own1) own = wipe σ own := by
  apply List.ext_getElem?
  intro m
  by_cases hm : m ∈ own
  · by_cases hl : m < σ.length
    · rw [wipe_at hm (by rw [wipe_len]; exact hl), wipe_at hm hl]
    · rw [List.getElem?_eq_none (by rw [wipe_len, wipe_len]; omega), List.getElem?_eq_none (by rw [wipe_len]; omega)]
  · rw [wipe_ne hm, wipe_ne hm, wipe_ne fun z => hm (hv m z)]
theorem GI.mono {wi : TI} {Q Q' : List I → List D → QS} (h : GI c ρ n ds wi Q) (m : ∀ pin xs ρ n, Q pin xs ρ n → Q' pin xs ρ n) : GI c ρ n ds wi Q' := fun σ H vs F s k => h σ H vs F s fun pin xs ρ n ws J H q => k pin xs ρ n ws J H (m _ _ _ _ q)
theorem CpD.mono {own : List Nat} {g : TG} {tt : TT} {te : TE} {Q Q' : List D → QS} (m : ∀ ys ρ n, Q ys ρ n → Q' ys ρ n) : ∀ {xs ys : List D} {ρ : List S} {n : Nat}, CpD c ds own g tt te Q xs ys ρ n → CpD c ds own g tt te Q' xs ys ρ n
  | [], ys, ρ, n, h => m _ _ _ h
  | x :: xs, ys, ρ, n, h => by
    refine GW.mono (show GW _ _ _ _ _ _ _ _ from h) fun ρ1 n1 q => q.mono fun b ρ2 n2 q2 => ?_
    cases b with
    | true =>
      rw [if_pos rfl] at q2 ⊢
      exact q2.mono fun it ρ3 n3 q3 => ⟨q3.1, CpD.mono m q3.2⟩
    | false =>
      rw [if_neg Bool.false_ne_true] at q2 ⊢
      exact CpD.mono m q2
/-- the turns of the first clause; the second clause's items are walked in each -/
def CpD2 (c : Wd K) (ds : List I) (own own1 : List Nat) (g : TG) (tt : TT) (wi1 : TI) (g1 : TG) (tt1 : TT) (te : TE) (Q : List D → QS) : List D → List D → QS
  | [], ys => fun ρ n => Q ys ρ n
  | x :: xs, ys => fun ρ n => GW c ρ n (.o (.lst ys) :: ds) own g (.v x) fun ρ1 n1 => GT c ρ1 n1 (.o (.lst ys) :: ds) tt fun b ρ2 n2 =>
    if b = true then GI c ρ2 n2 (.o (.lst ys) :: ds) wi1 fun pin1 zs ρ3 n3 => cleanO own1 (pin1 ++ ds) = true ∧ CpD c (pin1 ++ ds) own1 g1 tt1 te (fun ys' ρ4 n4 => CpD2 c ds own own1 g tt wi1 g1 tt1 te Q xs ys' (unset own ρ4) n4) zs ys (unset own1 ρ3) n3
    else CpD2 c ds own own1 g tt wi1 g1 tt1 te Q xs ys (unset own ρ2) n2
theorem cleanO_cons {own : List Nat} {ys : List D} {ds : List I} (h : cleanO own ds = true) : cleanO own (.o (.lst ys) :: ds) = true := by
  unfold cleanO
  rw [List.all_cons]
  exact h
theorem lc2_ {wi wi1 : TI} {g g1 : TG} {tt tt1 : TT} {te : TE} {own own1 : List Nat} {Q : QI} (hv : (own1.all fun i => own.contains i) = true)
    (h : GI c ρ n ds wi fun pin xs ρ' n' => cleanO own (pin ++ ds) = true ∧ CpD2 c (pin ++ ds) own own1 g tt wi1 g1 tt1 te (fun ys ρ2 n2 => Q (.o (.lst ys)) ρ2 n2) xs [] (HD.unset own ρ') n') : GE c ρ n ds (tLc2 wi g tt wi1 g1 tt1 te own own1) Q := fun σ H vs F s k =>
  h σ H vs _ s fun pin xs ρ' n' ws J H' ⟨hc, q⟩ hl s' w => by
    have hv : ∀ i ∈ own1, i ∈ own := fun i hi => by
      have := List.all_eq_true.mp hv i hi
      simpa using this
    have w := w ds vs
    intro D hD
    obtain ⟨L, B, s'⟩ := s'
    have s1 : St c ρ' n' (.o (.lst []) :: (pin ++ ds)) σ (upd H' D (.lst [])) (.ref D :: (ws ++ vs)) := ⟨L, _, s'.pushO hD .nil⟩
    have hc1 : ∀ ys, cleanO own (.o (.lst ys) :: (pin ++ ds)) = true := fun ys => cleanO_cons hc
    have s2 := St.unset (hc1 []) s1
    refine ⟨fun i m H => m = xs.length - i ∧ i ≤ xs.length ∧ ∃ ys ρ0 n, CpD2 c (pin ++ ds) own own1 g tt wi1 g1 tt1 te (fun ys ρ2 n2 => Q (.o (.lst ys)) ρ2 n2) (xs.drop i) ys (HD.unset own ρ0) n ∧ St c (HD.unset own ρ0) n (.o (.lst ys) :: (pin ++ ds)) (wipe σ own) H (.ref D :: (ws ++ vs)), ⟨xs.length, rfl, Nat.zero_le _, [], ρ', n', q, s2⟩, ?_⟩
    rintro i m H ⟨rfl, hi, ys, ρ0, n, f, s⟩
    by_cases hlt : i < xs.length
    · refine .inr ⟨w.go i _ n [.o (.lst ys)] _ H [.ref D] hlt rfl s, fun H => ∃ ys ρ0 n, CpD2 c (pin ++ ds) own own1 g tt wi1 g1 tt1 te (fun ys ρ2 n2 => Q (.o (.lst ys)) ρ2 n2) (xs.drop (i + 1)) ys (HD.unset own ρ0) n ∧ St c (HD.unset own ρ0) n (.o (.lst ys) :: (pin ++ ds)) (wipe σ own) H (.ref D :: (ws ++ vs)), fun H' z => ⟨_, by omega, rfl, hlt, z⟩, fun x H' y => ?_⟩
      have s3 := w.yl i xs[i] _ n [.o (.lst ys)] _ H [.ref D] x H' (List.getElem?_eq_getElem hlt) rfl s y
      rw [List.drop_eq_getElem_cons hlt] at f
      refine f _ H' _ x _ s3 fun ρ1 n1 σ1 H1 q1 w1 s4 => ?_
      have w2 : wipe σ1 own = wipe σ own := by rw [w1]; exact wipe_sub (fun _ h => h) σ
      refine ⟨w2, q1 σ1 H1 _ _ s4 fun b ρ2 n2 H2 q2 s5 => ?_⟩
      cases b with
      | true =>
        rw [if_pos rfl] at q2 ⊢
        refine q2 σ1 H2 _ _ s5 fun pin1 zs ρ3 n3 ws1 J1 H3 ⟨hc3, q3⟩ hl1 s6 v1 => ?_
        have v1 := v1 (pin ++ ds) (ws ++ vs)
        have hc4 : ∀ ys, cleanO own1 (.o (.lst ys) :: (pin1 ++ (pin ++ ds))) = true := fun ys => cleanO_cons hc3
        have s7 := St.unset (own := own1) (hc4 _) (St.rot' hl1 s6)
        refine ⟨fun j m H => m = zs.length - j ∧ j ≤ zs.length ∧ ∃ ys ρ0 n, CpD c (pin1 ++ (pin ++ ds)) own1 g1 tt1 te (fun ys' ρ4 n4 => CpD2 c (pin ++ ds) own own1 g tt wi1 g1 tt1 te (fun ys ρ2 n2 => Q (.o (.lst ys)) ρ2 n2) (xs.drop (i + 1)) ys' (HD.unset own ρ4) n4) (zs.drop j) ys (HD.unset own1 ρ0) n ∧ St c (HD.unset own1 ρ0) n (.o (.lst ys) :: (pin1 ++ (pin ++ ds))) (wipe σ1 own1) H (.ref D :: (ws1 ++ (ws ++ vs))), ⟨zs.length, rfl, Nat.zero_le _, ys, ρ3, n3, q3, s7⟩, ?_⟩
        rintro j m H4 ⟨rfl, hj, ys4, ρ4, n4, f4, s8⟩
        by_cases hjt : j < zs.length
        · refine .inr ⟨v1.go j _ n4 [.o (.lst ys4)] _ H4 [.ref D] hjt rfl s8, fun H => ∃ ys ρ0 n, CpD c (pin1 ++ (pin ++ ds)) own1 g1 tt1 te (fun ys' ρ4 n4 => CpD2 c (pin ++ ds) own own1 g tt wi1 g1 tt1 te (fun ys ρ2 n2 => Q (.o (.lst ys)) ρ2 n2) (xs.drop (i + 1)) ys' (HD.unset own ρ4) n4) (zs.drop (j + 1)) ys (HD.unset own1 ρ0) n ∧ St c (HD.unset own1 ρ0) n (.o (.lst ys) :: (pin1 ++ (pin ++ ds))) (wipe σ1 own1) H (.ref D :: (ws1 ++ (ws ++ vs))), fun H' z => ⟨_, by omega, rfl, hjt, z⟩, fun x H5 y => ?_⟩
          have s9 := v1.yl j zs[j] _ n4 [.o (.lst ys4)] _ H4 [.ref D] x H5 (List.getElem?_eq_getElem hjt) rfl s8 y
          rw [List.drop_eq_getElem_cons hjt] at f4
          refine f4 _ H5 _ x _ s9 fun ρ5 n5 σ5 H5 q5 w5 s10 => ?_
          have w6 : wipe σ5 own1 = wipe σ1 own1 := by rw [w5]; exact wipe_sub (fun _ h => h) σ1
          refine ⟨w6, q5 σ5 H5 _ _ s10 fun b ρ6 n6 H6 q6 s11 => ?_⟩
          cases b with
          | true =>
            rw [if_pos rfl] at q6 ⊢
            refine q6 σ5 H6 _ _ s11 fun it ρ7 n7 v7 H7 q7 s12 => ?_
            obtain ⟨a, acc, ea, h1, h2, s13⟩ := St.acc s12
            cases ea
            have hb := Nat.le_of_ble_eq_true q7.1
            refine ⟨acc, h1, Nat.lt_of_lt_of_le (show acc.length < 100001 by omega) (by decide), _, _, n7, q7.2, ?_⟩
            have s14 := St.unset (own := own1) (hc4 _) s13
            rw [w6] at s14
            exact s14
          | false =>
            rw [if_neg Bool.false_ne_true] at q6 ⊢
            have s14 := St.unset (own := own1) (hc4 _) s11
            rw [w6] at s14
            exact ⟨ys4, ρ6, n6, q6, s14⟩
        · have e : j = zs.length := by omega
          subst e
          rw [List.drop_length] at f4
          have s9 := St.rot hl1 s8
          have s10 := St.pops hl1 s9
          have s11 := St.unset (own := own) (hc1 _) s10
          rw [wipe_sub hv, w2] at s11
          exact .inl ⟨v1.st _ n4 [.o (.lst ys4)] _ H4 [.ref D] rfl s8, ys4, _, n4, f4, s11⟩
      | false =>
        rw [if_neg Bool.false_ne_true] at q2 ⊢
        have s8 := St.unset (own := own) (hc1 _) s5
        rw [w2] at s8
        exact ⟨ys, ρ2, n2, q2, s8⟩
    · have e : i = xs.length := by omega
      subst e
      rw [List.drop_length] at f
      have s3 := St.back (hc1 _) s
      refine .inl ⟨w.st _ n [.o (.lst ys)] _ H [.ref D] rfl s, k _ _ _ _ _ f ?_⟩
      exact St.pops hl (St.rot hl s3)
/-- by an invariant of the first clause's turns -/
theorem CpD2.inv {own own1 : List Nat} {g g1 : TG} {tt tt1 : TT} {wi1 : TI} {te : TE} {Q : List D → QS} {xs : List D} (P : Nat → List D → QS) (h0 : P 0 [] ρ n)
    (hs : ∀ i x ys ρ n, xs[i]? = some x → i < xs.length → P i ys ρ n → GW c ρ n (.o (.lst ys) :: ds) own g (.v x) fun ρ1 n1 => GT c ρ1 n1 (.o (.lst ys) :: ds) tt fun b ρ2 n2 =>
      if b = true then GI c ρ2 n2 (.o (.lst ys) :: ds) wi1 fun pin1 zs ρ3 n3 => cleanO own1 (pin1 ++ ds) = true ∧ CpD c (pin1 ++ ds) own1 g1 tt1 te (fun ys' ρ4 n4 => P (i + 1) ys' (HD.unset own ρ4) n4) zs ys (HD.unset own1 ρ3) n3
      else P (i + 1) ys (HD.unset own ρ2) n2) (hd : ∀ ys ρ n, P xs.length ys ρ n → Q ys ρ n) : CpD2 c ds own own1 g tt wi1 g1 tt1 te Q xs [] ρ n := by
  have go : ∀ (k : Nat) (ys : List D) (ρ : List S) (n : Nat), k ≤ xs.length → P k ys ρ n → CpD2 c ds own own1 g tt wi1 g1 tt1 te Q (xs.drop k) ys ρ n := by
    intro k
    generalize hm : xs.length - k = m
    induction m generalizing k with
    | zero =>
      intro ys ρ n hk p
      have : k = xs.length := by omega
      subst this
      rw [List.drop_length]
      exact hd _ _ _ p
    | succ m ih =>
      intro ys ρ n hk p
      have hlt : k < xs.length := by omega
      rw [List.drop_eq_getElem_cons hlt]
      refine (hs k xs[k] ys ρ n (List.getElem?_eq_getElem hlt) hlt p).mono fun ρ1 n1 q => q.mono fun b ρ2 n2 q2 => ?_
      cases b with
      | true =>
        rw [if_pos rfl] at q2 ⊢
        exact q2.mono fun pin1 zs ρ3 n3 q3 => ⟨q3.1, q3.2.mono fun ys' ρ4 n4 q4 => ih (k + 1) (by omega) _ _ _ hlt q4⟩
      | false =>
        rw [if_neg Bool.false_ne_true] at q2 ⊢
        exact ih (k + 1) (by omega) _ _ _ hlt q2
  exact go 0 [] ρ n (Nat.zero_le _) h0
/-- each item gives a list, the slots come back -/
theorem CpD2.flatD {own own1 : List Nat} {g g1 : TG} {tt tt1 : TT} {wi1 : TI} {te : TE} {Q : List D → QS} {xs : List D} (f : D → List D)
    (hs : ∀ x ∈ xs, ∀ ys, ys.length ≤ (xs.flatMap f).length → GW c ρ n (.o (.lst ys) :: ds) own g (.v x) fun ρ1 n1 => GT c ρ1 n1 (.o (.lst ys) :: ds) tt fun b ρ2 n2 => b = true ∧ GI c ρ2 n2 (.o (.lst ys) :: ds) wi1 fun pin1 zs ρ3 n3 =>
      cleanO own1 (pin1 ++ ds) = true ∧ CpD c (pin1 ++ ds) own1 g1 tt1 te (fun ys' ρ4 n4 => ys' = ys ++ f x ∧ HD.unset own ρ4 = ρ ∧ n4 = n) zs ys (HD.unset own1 ρ3) n3)
    (hd : Q (xs.flatMap f) ρ n) : CpD2 c ds own own1 g tt wi1 g1 tt1 te Q xs [] ρ n := by
  have key : ∀ i, ((xs.take i).flatMap f).length ≤ (xs.flatMap f).length := fun i => by
    have e : xs.flatMap f = (xs.take i).flatMap f ++ (xs.drop i).flatMap f := by rw [← List.flatMap_append, List.take_append_drop]
    rw [e, List.length_append]
    exact Nat.le_add_right _ _
  refine CpD2.inv (fun i ys ρ' n' => ys = (xs.take i).flatMap f ∧ ρ' = ρ ∧ n' = n) ⟨rfl, rfl, rfl⟩ (fun i x ys ρ' n' hx hi p => ?_) fun ys ρ' n' p => ?_
  · obtain ⟨rfl, rfl, rfl⟩ := p
    refine (hs x (List.mem_of_getElem? hx) _ (key i)).mono fun ρ1 n1 q => q.mono fun b ρ2 n2 q2 => ?_
    obtain ⟨rfl, q2⟩ := q2
    rw [if_pos rfl]
    refine q2.mono fun pin1 zs ρ3 n3 q3 => ⟨q3.1, q3.2.mono fun ys' ρ4 n4 q4 => ⟨?_, q4.2.1, q4.2.2⟩⟩
    rw [q4.1, List.take_add_one, hx, List.flatMap_append]
    simp
  · obtain ⟨rfl, rfl, rfl⟩ := p
    rw [List.take_length]; exact hd
end
end HD
/-! x in a tuple of instances with an own == -/
namespace HIn
open PySem PySem.Spec PyProof.Rows L2
section
open PySem.SeqAt
open AutoSeq1 (wpAny_loadPart')
open MeetsSeq MeetsSeq2 MeetsSeq3 SeqRoads2
variable {prog : Program} {w : World} {A : Around} {R : Result → Shared → Prop}
theorem tuple_containsG (l : Addr) (items : Array Value) (n : Nat) (dd : Option Addr) (sl : Array (Option Value)) (x : Value) (I : Nat → Shared → Prop)
    (turn : ∀ i (h1 : i < items.size) s, I i s → wpAny (model prog w) A.in1 (eqBool items[i] x) (fun r s' => if r = true then R (.ok (.ret (.bool true))) s' else I (i + 1) s') (fun e s' => R (.error e) s') s)
    (fin : ∀ s, I items.size s → R (.ok (.ret (.bool false))) s) {s : Shared} (hl : s.heap.get? l = some { cls := .type "tuple", dict := dd, data := .seq items n, slots := sl }) (h : I 0 s) :
    wpAny (model prog w) A.in1 (Builtin.«tuple.__contains__» ⟨[.ref l, x], []⟩) (GQ.FinOf prog w A R) (fun e s' => R (.error e) s') s := by
  have h0 := h
  obtain ⟨hp, g, d, tk, os⟩ := s
  wp_walk using wpAny_loadPart' hl, wpAny_forIn_array _ (fun rest b s' => b.1 = none ∧ ∃ i, rest = items.toList.drop i ∧ i ≤ items.size ∧ I i s') _
  case turn =>
    rintro y rest b s' ⟨hb, i, hz, hi, hI⟩
    have hlt : i < items.size := by
      rcases Nat.lt_or_ge i items.size with h' | h'
      · exact h'
      · rw [List.drop_of_length_le (by simpa using h')] at hz; cases hz
    rw [List.drop_eq_getElem_cons (by simpa using hlt)] at hz
    injection hz with hy hrest
    have hy : y = items[i] := by simpa using hy
    subst hy
    refine wpAny_bind (wpAny_mono (turn i hlt s' hI) (fun r s2 q2 => ?_) fun _ _ x => x)
    cases r with
    | true =>
      rw [if_pos rfl] at q2
      wp_walk
      exact q2
    | false =>
      rw [if_neg Bool.false_ne_true] at q2
      wp_walk
      exact ⟨rfl, i + 1, hrest, hlt, q2⟩
  case fin =>
    rintro ⟨b1, b2⟩ s' ⟨hb, i, hz, hi, hI⟩
    simp only at hb
    subst hb
    have hge : items.size ≤ i := by
      rcases Nat.lt_or_ge i items.size with h' | h'
      · rw [List.drop_eq_getElem_cons (by simpa using h')] at hz; cases hz
      · exact h'
    have hi' : i = items.size := by omega
    have hR : R (.ok (.ret (.bool false))) s' := fin s' (hi' ▸ hI)
    wp_walk
    exact hR
  case h =>
    exact ⟨rfl, 0, rfl, Nat.zero_le _, h0⟩
/-- two tuples, pair by pair -/
theorem tuple_eqX (l b : Addr) (items items2 : Array Value) (n n2 : Nat) (dd dd2 : Option Addr) (sl sl2 : Array (Option Value)) (I : Nat → Shared → Prop)
    (turn : ∀ i (h1 : i < items.size) (h2 : i < items2.size) s, I i s → wpAny (model prog w) A.in1 (eqBool items[i] items2[i]) (fun r s' => if r = true then I (i + 1) s' else R (.ok (.ret (.bool false))) s') (fun e s' => R (.error e) s') s)
    (fin : ∀ i s, i = min items.size items2.size → I i s → R (.ok (.ret (.bool (items.size == items2.size)))) s) {s : Shared} (hl1 : s.heap.get? l = some { cls := .type "tuple", dict := dd, data := .seq items n, slots := sl }) (hb1 : s.heap.get? b = some { cls := .type "tuple", dict := dd2, data := .seq items2 n2, slots := sl2 }) (h : I 0 s) :
    wpAny (model prog w) A.in1 (Builtin.«tuple.__eq__» ⟨[.ref l, .ref b], []⟩) (GQ.FinOf prog w A R) (fun e s' => R (.error e) s') s := by
  have f2 := AutoSeq1.sub_tuple_tuple
  have hZ : (items.toList.zip items2.toList).length = min items.size items2.size := by simp
  have h0 := h
  obtain ⟨hp, g, d, tk, os⟩ := s
  wp_walk using wpAny_loadPart' hl1, wpAny_loadPart' hb1, wpAny_forIn_list _ (fun rest b s' => b.1 = none ∧ ∃ i, rest = (items.toList.zip items2.toList).drop i ∧ i ≤ min items.size items2.size ∧ I i s') _
  case turn =>
    rintro ⟨y, x⟩ rest b s' ⟨hb', i, hz, hi, hI⟩
    have hlt : i < (items.toList.zip items2.toList).length := by
      rcases Nat.lt_or_ge i (items.toList.zip items2.toList).length with h' | h'
      · exact h'
      · rw [List.drop_of_length_le h'] at hz; cases hz
    have h1 : i < items.size := by rw [hZ] at hlt; omega
    have h2 : i < items2.size := by rw [hZ] at hlt; omega
    rw [List.drop_eq_getElem_cons hlt] at hz
    injection hz with hyx hrest
    have hy : y = items[i] := by have := congrArg Prod.fst hyx; simpa using this
    have hx : x = items2[i] := by have := congrArg Prod.snd hyx; simpa using this
    subst hy hx
    refine wpAny_bind (wpAny_mono (turn i h1 h2 s' hI) (fun r s2 q2 => ?_) fun _ _ x => x)
    cases r with
    | true =>
      rw [if_pos rfl] at q2
      wp_walk
      exact ⟨rfl, i + 1, hrest, by omega, q2⟩
    | false =>
      rw [if_neg Bool.false_ne_true] at q2
      wp_walk
      exact q2
  case fin =>
    rintro ⟨b1, b2⟩ s' ⟨hb', i, hz, hi, hI⟩
    simp only at hb'
    subst hb'
    have hge : min items.size items2.size ≤ i := by
      rcases Nat.lt_or_ge i (items.toList.zip items2.toList).length with h' | h'
      · rw [List.drop_eq_getElem_cons h'] at hz; cases hz
      · rw [← hZ]; exact h'
    have hi' : i = min items.size items2.size := by omega
    have hR : R (.ok (.ret (.bool (items.size == items2.size)))) s' := fin i s' hi' hI
    wp_walk
    simpa [Builtin.Tuple.tupleCompareSizes] using hR
  case h =>
    exact ⟨rfl, 0, rfl, Nat.zero_le _, h0⟩
/-- two tuples, pair by pair -/
theorem tuple_neX (l b : Addr) (items items2 : Array Value) (n n2 : Nat) (dd dd2 : Option Addr) (sl sl2 : Array (Option Value)) (I : Nat → Shared → Prop)
    (turn : ∀ i (h1 : i < items.size) (h2 : i < items2.size) s, I i s → wpAny (model prog w) A.in1 (eqBool items[i] items2[i]) (fun r s' => if r = true then I (i + 1) s' else R (.ok (.ret (.bool true))) s') (fun e s' => R (.error e) s') s)
    (fin : ∀ i s, i = min items.size items2.size → I i s → R (.ok (.ret (.bool (items.size != items2.size)))) s) {s : Shared} (hl1 : s.heap.get? l = some { cls := .type "tuple", dict := dd, data := .seq items n, slots := sl }) (hb1 : s.heap.get? b = some { cls := .type "tuple", dict := dd2, data := .seq items2 n2, slots := sl2 }) (h : I 0 s) :
    wpAny (model prog w) A.in1 (Builtin.«tuple.__ne__» ⟨[.ref l, .ref b], []⟩) (GQ.FinOf prog w A R) (fun e s' => R (.error e) s') s := by
  have f2 := AutoSeq1.sub_tuple_tuple
  have hZ : (items.toList.zip items2.toList).length = min items.size items2.size := by simp
  have h0 := h
  obtain ⟨hp, g, d, tk, os⟩ := s
  wp_walk using wpAny_loadPart' hl1, wpAny_loadPart' hb1, wpAny_forIn_list _ (fun rest b s' => b.1 = none ∧ ∃ i, rest = (items.toList.zip items2.toList).drop i ∧ i ≤ min items.size items2.size ∧ I i s') _
  case turn =>
    rintro ⟨y, x⟩ rest b s' ⟨hb', i, hz, hi, hI⟩
    have hlt : i < (items.toList.zip items2.toList).length := by
      rcases Nat.lt_or_ge i (items.toList.zip items2.toList).length with h' | h'
      · exact h'
      · rw [List.drop_of_length_le h'] at hz; cases hz
    have h1 : i < items.size := by rw [hZ] at hlt; omega
    have h2 : i < items2.size := by rw [hZ] at hlt; omega
    rw [List.drop_eq_getElem_cons hlt] at hz
    injection hz with hyx hrest
    have hy : y = items[i] := by have := congrArg Prod.fst hyx; simpa using this
    have hx : x = items2[i] := by have := congrArg Prod.snd hyx; simpa using this
    subst hy hx
    refine wpAny_bind (wpAny_mono (turn i h1 h2 s' hI) (fun r s2 q2 => ?_) fun _ _ x => x)
    cases r with
    | true =>
      rw [if_pos rfl] at q2
      wp_walk
      exact ⟨rfl, i + 1, hrest, by omega, q2⟩
    | false =>
      rw [if_neg Bool.false_ne_true] at q2
      wp_walk
      exact q2
  case fin =>
    rintro ⟨b1, b2⟩ s' ⟨hb', i, hz, hi, hI⟩
    simp only at hb'
    subst hb'
    have hge : min items.size items2.size ≤ i := by
      rcases Nat.lt_or_ge i (items.toList.zip items2.toList).length with h' | h'
      · rw [List.drop_eq_getElem_cons h'] at hz; cases hz
      · rw [← hZ]; exact h'
    have hi' : i = min items.size items2.size := by omega
    have hR : R (.ok (.ret (.bool (items.size != items2.size)))) s' := fin i s' hi' hI
    wp_walk
    simpa [Builtin.Tuple.tupleCompareSizes] using hR
  case h =>
    exact ⟨rfl, 0, rfl, Nat.zero_le _, h0⟩
end
/-! the walk along a tuple's items by an own == -/
/-- one address holds one tuple -/
def UqT (K : PySem.W.Frag) (H : Hp) : Prop := ∀ a vs ws, SqT K H a vs → SqT K H a ws → vs = ws
def inW (K : PySem.W.Frag) (f : Addr) (sp : Sp) (x : V) : List V → Hp → (Bool → Hp → Prop) → Prop
  | [], H, Q => Q false H
  | y :: ys, H, Q => ∃ a b C dx fs D dy gs, y = .ref a ∧ x = .ref b ∧ H a = some (.ins C dx fs) ∧ H b = some (.ins D dy gs) ∧ HP.EqCls K C D f ∧ (a = b → UqT K H → Q true H) ∧
    (a ≠ b → sp [.ref a, .ref b] H (fun v H' => ∃ r, v = .bl r ∧ if r = true then Q true H' else inW K f sp x ys H' Q) E0)
def rInO (neg : Bool) (K : PySem.W.Frag) (f : Addr) (sp : Sp) : R2 := fun x y H Q => ∃ a vs, y = .ref a ∧ SqT K H a vs ∧ inW K f sp x vs H fun r H' => Q (.bl (if neg then !r else r)) H'
section
variable {X : Cx} {K : PySem.W.Frag} {n : Nat} {f : Addr} {fd : FuncData} {ps : List Str} {sp : Sp}
theorem inO_call (F : FnOk X.prog X.w X.K X.mg X.base CX0 n f fd ps sp) (hb : Binds X.K fd ps []) (hr : Room (n + 1) X.A) {pins : List (Addr × Obj)} {σ : L2.St} {H : Hp} {s : Shared} {a : Addr} {vs : List V} {x : V} {u : Value} {Q : Bool → Hp → Prop}
    (I : Inv X pins σ H s) (rx : RelV x u) (ht : SqT X.K H a vs) (h : inW X.K f sp x vs H Q) :
    wpAny (model X.prog X.w) X.A (call (.builtin "tuple.__contains__") [.ref a, u]) (fun v s' => ∃ b, v = .bool b ∧ ∃ H', Inv X pins σ H' s' ∧ Q b H') X.xe s := by
  obtain ⟨its, r, ⟨⟨cls, dd, data, sl⟩, ho, hc, m, hd⟩, _⟩ := I.tuple ht
  simp only at hc hd
  subst hc hd
  refine GQ.call_here PySem.F.slot_tuple_contains ⟨_, ho, rfl⟩ PySem.F.entry_tuple_contains (PySem.F.args_tuple_contains_2 _ _) ?_
  refine tuple_containsG a its.toArray m dd sl u (fun i s' => ∃ H', Inv X pins σ H' s' ∧ inW X.K f sp x (vs.drop i) H' Q) (fun i h1 s' q => ?_) (fun s' q => ?_) ho ⟨H, I, h⟩
  · obtain ⟨H1, I1, q⟩ := q
    have k1 : i < vs.length := by rw [r.length]; simpa using h1
    rw [List.drop_eq_getElem_cons k1] at q
    obtain ⟨b, c, C, dx, fs, D, dy, gs, ey, ex, hb1, hc1, k, q1, q2⟩ := q
    obtain ⟨z, hz, rz⟩ := r.get (List.getElem?_eq_getElem k1)
    have e1 : its.toArray[i] = Value.ref b := by
      have h1' : i < its.length := by simpa using h1
      rw [List.getElem?_eq_getElem h1'] at hz
      rw [ey] at rz
      have : its[i] = z := Option.some.inj hz
      have rz : z = Value.ref b := rz
      simp [this, rz]
    have e2 : u = Value.ref c := by rw [ex] at rx; exact rx
    rw [e1, e2]
    by_cases hbc : b = c
    · subst hbc
      refine SeqAt.EqAt.same (A := X.A.in1) (s := s') (.ref b) X.prog X.w _ _ ?_
      rw [if_pos rfl]
      exact ⟨true, rfl, H1, I1, q1 rfl fun a vs ws => I1.tuple_inj⟩
    · have q2 := q2 hbc
      refine GQ.eqBool_refG hbc ?_
      obtain ⟨mA, J, _⟩ := ins_get I1.hok hb1
      obtain ⟨mB, J', _⟩ := ins_get I1.hok hc1
      obtain ⟨od, J, _⟩ := J.look
      obtain ⟨od', J', _⟩ := J'.look
      obtain ⟨m', hF⟩ := I1.fr
      have hr1 : Room n X.A.in1 := hr.in1
      refine PySem.W.cmp_K (op := .Eq) (tb := .ref D) hr1.units0 hF I1.ok.mod.kin J J'.type k.nf k.eq k.fn ?_
      refine wpAny_call (codeAny_mono (HP.eqO_run F hb hr1 rfl I1 q2) fun r s2 hq => ?_)
      cases r with
      | error e => exact hq.elim
      | ok fl =>
        cases fl with
        | ret w =>
          obtain ⟨z, H', I', rz, r, ez, q⟩ := hq
          subst ez
          obtain rfl : w = Value.bool r := rz
          refine ⟨r, rfl, ?_⟩
          cases r with
          | true =>
            rw [if_pos rfl] at q ⊢
            exact ⟨true, rfl, H', I', q⟩
          | false =>
            rw [if_neg Bool.false_ne_true] at q ⊢
            exact ⟨H', I', q⟩
        | next => exact hq.elim
        | brk => exact hq.elim
        | cont => exact hq.elim
  · obtain ⟨H1, I1, q⟩ := q
    have e : its.toArray.size = vs.length := by rw [List.size_toArray, ← r.length]
    rw [e, List.drop_length] at q
    exact ⟨false, rfl, H1, I1, q⟩
theorem op_inO (F : FnOk X.prog X.w X.K X.mg X.base CX0 n f fd ps sp) (hb : Binds X.K fd ps []) (hr : Room (n + 1) X.A) (hK : X.K = K := by rfl) : OpR X (compareOp .In) (rInO false K f sp) := by
  cases hK
  intro pins s σ H x y v u Q I rx ry h
  obtain ⟨a, vs, rfl, ht, q⟩ := h
  cases ry
  have hT : s.TypeIs (.ref a) "tuple" := by
    obtain ⟨its, r, ⟨o, ho, hc, _⟩, _⟩ := I.tuple ht
    exact ⟨_, ho, hc⟩
  refine PyProof.Rows.In_slot hT PySem.F.slot_tuple_contains (wpAny_mono (inO_call F hb hr I rx ht q) (fun r s' z => ?_) fun _ _ e => e)
  obtain ⟨b, rfl, H', I', q⟩ := z
  exact wpAny_truthy_bool ⟨.bl b, H', I', rfl, q⟩
theorem op_niO (F : FnOk X.prog X.w X.K X.mg X.base CX0 n f fd ps sp) (hb : Binds X.K fd ps []) (hr : Room (n + 1) X.A) (hK : X.K = K := by rfl) : OpR X (compareOp .NotIn) (rInO true K f sp) := by
  cases hK
  intro pins s σ H x y v u Q I rx ry h
  obtain ⟨a, vs, rfl, ht, q⟩ := h
  cases ry
  have hT : s.TypeIs (.ref a) "tuple" := by
    obtain ⟨its, r, ⟨o, ho, hc, _⟩, _⟩ := I.tuple ht
    exact ⟨_, ho, hc⟩
  refine PyProof.Rows.NotIn_slot hT PySem.F.slot_tuple_contains (wpAny_mono (inO_call F hb hr I rx ht q) (fun r s' z => ?_) fun _ _ e => e)
  obtain ⟨b, rfl, H', I', q⟩ := z
  exact wpAny_truthy_bool ⟨.bl (!b), H', I', rfl, q⟩
end
/-! two tuples pair by pair, by an own == -/
def eqW (K : PySem.W.Frag) (f : Addr) (sp : Sp) : List V → List V → Hp → (Bool → Hp → Prop) → Prop
  | x :: xs, y :: ys, H, Q => ∃ a b C dx fs D dy gs, x = .ref a ∧ y = .ref b ∧ H a = some (.ins C dx fs) ∧ H b = some (.ins D dy gs) ∧ HP.EqCls K C D f ∧ (a = b → UqT K H → eqW K f sp xs ys H Q) ∧
    (a ≠ b → sp [.ref a, .ref b] H (fun v H' => ∃ r, v = .bl r ∧ if r = true then eqW K f sp xs ys H' Q else Q false H') E0)
  | [], [], H, Q => Q true H
  | [], _ :: _, H, Q => Q false H
  | _ :: _, [], H, Q => Q false H
def rTupO (neg : Bool) (K : PySem.W.Frag) (f : Addr) (sp : Sp) : R2 := fun x y H Q => ∃ a b xs ys, x = .ref a ∧ y = .ref b ∧ SqT K H a xs ∧ SqT K H b ys ∧ eqW K f sp xs ys H fun r H' => Q (.bl (if neg then !r else r)) H'
section
variable {X : Cx} {K : PySem.W.Frag} {n : Nat} {f : Addr} {fd : FuncData} {ps : List Str} {sp : Sp}
theorem eqW_fin {xs ys : List V} {H : Hp} {Q : Bool → Hp → Prop} {i : Nat} (e : i = min xs.length ys.length) (h : eqW K f sp (xs.drop i) (ys.drop i) H Q) : Q (xs.length == ys.length) H := by
  rcases Nat.lt_trichotomy xs.length ys.length with z | z | z
  · have e1 : xs.drop i = [] := List.drop_of_length_le (by omega)
    obtain ⟨y, t, e2⟩ : ∃ y t, ys.drop i = y :: t := ⟨_, _, List.drop_eq_getElem_cons (by omega)⟩
    rw [e1, e2] at h
    rw [show (xs.length == ys.length) = false from by rw [beq_eq_false_iff_ne]; omega]
    exact h
  · have e1 : xs.drop i = [] := List.drop_of_length_le (by omega)
    have e2 : ys.drop i = [] := List.drop_of_length_le (by omega)
    rw [e1, e2] at h
    rw [show (xs.length == ys.length) = true from by rw [beq_iff_eq]; omega]
    exact h
  · have e1 : ys.drop i = [] := List.drop_of_length_le (by omega)
    obtain ⟨y, t, e2⟩ : ∃ y t, xs.drop i = y :: t := ⟨_, _, List.drop_eq_getElem_cons (by omega)⟩
    rw [e1, e2] at h
    rw [show (xs.length == ys.length) = false from by rw [beq_eq_false_iff_ne]; omega]
    exact h
/-- one pair -/
theorem pair_run (F : FnOk X.prog X.w X.K X.mg X.base CX0 n f fd ps sp) (hb : Binds X.K fd ps []) (hr : Room (n + 1) X.A) {pins : List (Addr × Obj)} {σ : L2.St} {H : Hp} {s : Shared} {xs ys : List V} {its its2 : List Value} {Q : Bool → Hp → Prop} {P : Bool → Shared → Prop}
    (r : Vals xs its) (r2 : Vals ys its2) (i : Nat) (h1 : i < its.toArray.size) (h2 : i < its2.toArray.size) (I : Inv X pins σ H s) (h : eqW X.K f sp (xs.drop i) (ys.drop i) H Q)
    (ht : ∀ s' H', Inv X pins σ H' s' → eqW X.K f sp (xs.drop (i + 1)) (ys.drop (i + 1)) H' Q → P true s') (hf : ∀ s' H', Inv X pins σ H' s' → Q false H' → P false s') :
    wpAny (model X.prog X.w) X.A.in1 (eqBool its.toArray[i] its2.toArray[i]) P X.xe s := by
  have k1 : i < xs.length := by rw [r.length]; simpa using h1
  have k2 : i < ys.length := by rw [r2.length]; simpa using h2
  rw [List.drop_eq_getElem_cons k1, List.drop_eq_getElem_cons k2] at h
  obtain ⟨a, b, C, dx, fs, D, dy, gs, ex, ey, ha, hb1, k, q1, q2⟩ := h
  have at_ : ∀ {zs : List V} {us : List Value} (rz : Vals zs us) (hz : i < us.toArray.size) (kz : i < zs.length) {c : Addr}, zs[i] = V.ref c → us.toArray[i] = Value.ref c := fun {zs us} rz hz kz {c} ez => by
    obtain ⟨z, hz1, rz1⟩ := rz.get (List.getElem?_eq_getElem kz)
    have h1' : i < us.length := by simpa using hz
    rw [List.getElem?_eq_getElem h1'] at hz1
    rw [ez] at rz1
    have e1 : us[i] = z := Option.some.inj hz1
    have rz : z = Value.ref c := rz1
    simp [e1, rz]
  rw [at_ r h1 k1 ex, at_ r2 h2 k2 ey]
  by_cases hab : a = b
  · subst hab
    exact SeqAt.EqAt.same (A := X.A.in1) (s := s) (.ref a) X.prog X.w _ _ (ht s H I (q1 rfl fun a vs ws => I.tuple_inj))
  · have q2 := q2 hab
    refine GQ.eqBool_refG hab ?_
    obtain ⟨mA, J, _⟩ := ins_get I.hok ha
    obtain ⟨mB, J', _⟩ := ins_get I.hok hb1
    obtain ⟨od, J, _⟩ := J.look
    obtain ⟨od', J', _⟩ := J'.look
    obtain ⟨m', hF⟩ := I.fr
    have hr1 : Room n X.A.in1 := hr.in1
    refine PySem.W.cmp_K (op := .Eq) (tb := .ref D) hr1.units0 hF I.ok.mod.kin J J'.type k.nf k.eq k.fn ?_
    refine wpAny_call (codeAny_mono (HP.eqO_run F hb hr1 rfl I q2) fun r s2 hq => ?_)
    cases r with
    | error e => exact hq.elim
    | ok fl =>
      cases fl with
      | ret w =>
        obtain ⟨z, H', I', rz, r, ez, q⟩ := hq
        subst ez
        obtain rfl : w = Value.bool r := rz
        refine ⟨r, rfl, ?_⟩
        cases r with
        | true => rw [if_pos rfl] at q; exact ht s2 H' I' q
        | false => rw [if_neg Bool.false_ne_true] at q; exact hf s2 H' I' q
      | next => exact hq.elim
      | brk => exact hq.elim
      | cont => exact hq.elim
theorem op_eqTO (F : FnOk X.prog X.w X.K X.mg X.base CX0 n f fd ps sp) (hb : Binds X.K fd ps []) (hr : Room (n + 1) X.A) (hK : X.K = K := by rfl) : OpR X (compareOp .Eq) (rTupO false K f sp) := by
  cases hK
  intro pins s σ H x y v u Q I rx ry h
  obtain ⟨a, b, xs, ys, rfl, rfl, ht1, ht2, q⟩ := h
  cases rx
  cases ry
  obtain ⟨its, r, ⟨⟨cls, dd, data, sl⟩, ho, hc, m, hd⟩, _⟩ := I.tuple ht1
  obtain ⟨its2, r2, ⟨⟨cls2, dd2, data2, sl2⟩, ho2, hc2, m2, hd2⟩, _⟩ := I.tuple ht2
  simp only at hc hd hc2 hd2
  subst hc hd hc2 hd2
  show wpAny (model X.prog X.w) X.A (richCompare .Eq (.ref a) (.ref b)) _ X.xe s
  refine PySem.wpAny_richCompare_same_room (op := .Eq) ⟨_, ho, rfl⟩ ⟨_, ho2, rfl⟩ PySem.F.slot_tuple_eq (GQ.call_here PySem.F.slot_tuple_eq ⟨_, ho, rfl⟩ PySem.F.entry_tuple_eq (PySem.F.args_tuple_eq_2 _ _) ?_) hr.units0
  refine tuple_eqX a b its.toArray its2.toArray m m2 dd dd2 sl sl2 (fun i s' => ∃ H', Inv X pins σ H' s' ∧ eqW X.K f sp (xs.drop i) (ys.drop i) H' fun r H' => Q (.bl (if false then !r else r)) H') (fun i h1 h2 s' q => ?_) (fun i s' e q => ?_) ho ho2 ⟨H, I, q⟩
  · obtain ⟨H1, I1, q⟩ := q
    refine pair_run F hb hr r r2 i h1 h2 I1 q (fun s2 H2 I2 q2 => ?_) (fun s2 H2 I2 q2 => ?_)
    · rw [if_pos rfl]; exact ⟨H2, I2, q2⟩
    · rw [if_neg Bool.false_ne_true]
      exact ⟨(fun z => nomatch z), .bl false, H2, I2, rfl, q2⟩
  · obtain ⟨H1, I1, q⟩ := q
    have e1 : its.toArray.size = xs.length := by rw [List.size_toArray, ← r.length]
    have e2 : its2.toArray.size = ys.length := by rw [List.size_toArray, ← r2.length]
    rw [e1, e2] at e ⊢
    exact ⟨(fun z => nomatch z), .bl _, H1, I1, rfl, eqW_fin e q⟩
theorem op_neTO (F : FnOk X.prog X.w X.K X.mg X.base CX0 n f fd ps sp) (hb : Binds X.K fd ps []) (hr : Room (n + 1) X.A) (hK : X.K = K := by rfl) : OpR X (compareOp .NotEq) (rTupO true K f sp) := by
  cases hK
  intro pins s σ H x y v u Q I rx ry h
  obtain ⟨a, b, xs, ys, rfl, rfl, ht1, ht2, q⟩ := h
  cases rx
  cases ry
  obtain ⟨its, r, ⟨⟨cls, dd, data, sl⟩, ho, hc, m, hd⟩, _⟩ := I.tuple ht1
  obtain ⟨its2, r2, ⟨⟨cls2, dd2, data2, sl2⟩, ho2, hc2, m2, hd2⟩, _⟩ := I.tuple ht2
  simp only at hc hd hc2 hd2
  subst hc hd hc2 hd2
  show wpAny (model X.prog X.w) X.A (richCompare .NotEq (.ref a) (.ref b)) _ X.xe s
  refine PySem.wpAny_richCompare_same_room (op := .NotEq) ⟨_, ho, rfl⟩ ⟨_, ho2, rfl⟩ PySem.F.slot_tuple_ne (GQ.call_here PySem.F.slot_tuple_ne ⟨_, ho, rfl⟩ PySem.F.entry_tuple_ne (PySem.F.args_tuple_ne_2 _ _) ?_) hr.units0
  refine tuple_neX a b its.toArray its2.toArray m m2 dd dd2 sl sl2 (fun i s' => ∃ H', Inv X pins σ H' s' ∧ eqW X.K f sp (xs.drop i) (ys.drop i) H' fun r H' => Q (.bl (if true then !r else r)) H') (fun i h1 h2 s' q => ?_) (fun i s' e q => ?_) ho ho2 ⟨H, I, q⟩
  · obtain ⟨H1, I1, q⟩ := q
    refine pair_run F hb hr r r2 i h1 h2 I1 q (fun s2 H2 I2 q2 => ?_) (fun s2 H2 I2 q2 => ?_)
    · rw [if_pos rfl]; exact ⟨H2, I2, q2⟩
    · rw [if_neg Bool.false_ne_true]
      exact ⟨(fun z => nomatch z), .bl true, H2, I2, rfl, q2⟩
  · obtain ⟨H1, I1, q⟩ := q
    have e1 : its.toArray.size = xs.length := by rw [List.size_toArray, ← r.length]
    have e2 : its2.toArray.size = ys.length := by rw [List.size_toArray, ← r2.length]
    rw [e1, e2] at e ⊢
    have q3 := eqW_fin e q
    refine ⟨(fun z => nomatch z), .bl _, H1, I1, rfl, ?_⟩
    exact q3
end
/-! not x as a value, x of an own truth -/
def tNotO (r : V → Hp → (Bool → Hp → Prop) → Prop) (ta : TE) : TE := fun σ H Q => ta σ H fun x H1 => r x H1 fun k H2 => Q (.bl (!k)) H2
theorem pe_notO {X : Cx} {a : Expr} {ta : TE} {pos : Pos} {r : V → Hp → (Bool → Hp → Prop) → Prop} (ha : PE X a ta) (hr : TruR X r) : PE X (.UnaryOp .Not a pos) (tNotO r ta) := by
  refine ⟨fun pins s σ H Q I h => ?_⟩
  refine UnaryOp_ (thn (ha.run pins s σ H _ I h) fun v s1 ⟨x, H1, I1, r1, q1⟩ => ?_)
  exact not_of (thn (hr pins s1 σ H1 x v (fun c H2 => Q (.bl (!c)) H2) I1 r1 q1) fun c s2 ⟨H2, I2, q2⟩ => ⟨.bl (!c), H2, I2, rfl, q2⟩)
/-! data that one value cannot stand for both -/
open HD
def dif : Nat → D → D → Bool
  | _, .int i, .int j => i != j
  | _, .str x, .str y => x != y
  | _, .bl x, .bl y => x != y
  | k + 1, .tup xs, .tup ys => xs.length != ys.length || (xs.zip ys).any fun p => dif k p.1 p.2
  | k + 1, .ins C fs, .ins C' gs => C != C' || (fs.zip gs).any fun p => dif k p.1.2 p.2.2
  | _, _, _ => false
theorem dif_sound {K : PySem.W.Frag} {g : Addr} {M : Addr → Prop} {H : Hp} (u : UqT K H) : ∀ (k : Nat) {v : V} {d e : D}, R K g M H v d → R K g M H v e → dif k d e = true → False := by
  have ra : ∀ (k : Nat), (∀ {v : V} {d e : D}, R K g M H v d → R K g M H v e → dif k d e = true → False) → ∀ {vs : List V} {xs ys : List D}, RA K g M H vs xs → RA K g M H vs ys → ((xs.zip ys).any fun p => dif k p.1 p.2) = true → False := fun k ih => by
    intro vs
    induction vs with
    | nil => intro xs ys h1 h2 h; cases h1; cases h
    | cons v vs ih2 =>
      intro xs ys h1 h2 h
      cases h1 with
      | cons a1 b1 =>
      cases h2 with
      | cons a2 b2 =>
      rw [List.zip_cons_cons, List.any_cons, Bool.or_eq_true] at h
      rcases h with h | h
      · exact ih a1 a2 h
      · exact ih2 b1 b2 h
  have rf : ∀ (k : Nat), (∀ {v : V} {d e : D}, R K g M H v d → R K g M H v e → dif k d e = true → False) → ∀ {fv : List (Str × V)} {xs ys : List (Str × D)}, RF K g M H fv xs → RF K g M H fv ys → ((xs.zip ys).any fun p => dif k p.1.2 p.2.2) = true → False := fun k ih => by
    intro vs
    induction vs with
    | nil => intro xs ys h1 h2 h; cases h1; cases h
    | cons v vs ih2 =>
      intro xs ys h1 h2 h
      cases h1 with
      | cons a1 b1 =>
      cases h2 with
      | cons a2 b2 =>
      rw [List.zip_cons_cons, List.any_cons, Bool.or_eq_true] at h
      rcases h with h | h
      · exact ih a1 a2 h
      · exact ih2 b1 b2 h
  intro k
  induction k with
  | zero =>
    intro v d e h1 h2 h
    cases h1 <;> cases h2 <;> first | (cases h; done) | (simp [dif] at h; done)
  | succ k ih =>
    intro v d e h1 h2 h
    cases h1 with
    | tup s1 r1 =>
      cases h2 with
      | tup s2 r2 =>
        cases u _ _ _ s1.sqt s2.sqt
        rw [dif, Bool.or_eq_true] at h
        rcases h with h | h
        · rw [← r1.len, ← r2.len] at h; simp at h
        · exact ra k (fun {v d e} => ih) r1 r2 h
      | _ => first | (cases h; done) | (simp [dif] at h; done)
    | ins n1 s1 r1 =>
      cases h2 with
      | ins n2 s2 r2 =>
        rw [s1] at s2
        cases s2
        rw [dif, Bool.or_eq_true] at h
        rcases h with h | h
        · simp at h
        · exact rf k (fun {v d e} => ih) r1 r2 h
      | _ => first | (cases h; done) | (simp [dif] at h; done)
    | _ => cases h2 <;> first | (cases h; done) | (simp [dif] at h; done)
/-! on data -/
section
variable {K : PySem.W.Frag} {c : Wd K} {ρ : List S} {n : Nat} {ds : List I} {Q : QI} {f : Addr} {sp : SpD}
theorem RA.insAt {g : Addr} {M : Addr → Prop} {H : Hp} {v : V} {C : Addr} {fs : List (Str × D)} (h : R K g M H v (.ins C fs)) : ∃ a dx fv, v = .ref a ∧ H a = some (.ins C dx fv) := by
  cases h with
  | ins _ h _ => exact ⟨_, _, _, rfl, h⟩
theorem inO_ {neg : Bool} {ix iy : I} {C E : Addr} {gs : List (Str × D)} {ys : List D} {q : D → Bool} (ey : iy.val = .tup ys) (ex : ix.val = .ins E gs) (hy : ∀ y ∈ ys, (∃ fs, y = .ins C fs) ∧ (q y = false → ∃ k, dif k y (.ins E gs) = true)) (ec : HP.EqCls K C E f)
    (hs : ∀ y ∈ ys, ∀ (P : I → Nat → Prop) (Z : XD), (P (.v (.bl (q y))) n) → sp [y, .ins E gs] n P Z) (h : Q (.v (.bl (if neg then !(ys.any q) else ys.any q))) (frz [iy, ix] ρ) n) : GO c ρ n ds (rInO neg K f (lift K sp)) ix iy Q := fun σ H vs x y F s k => by
  have s1 : St c (frz [iy, ix] ρ) n (.v (.tup ys) :: .v (.ins E gs) :: ds) σ H (y :: x :: vs) := by
    have := St.frzs (is := [iy, ix]) (ws := [y, x]) rfl s
    rw [show [iy, ix].map fv = [.v (.tup ys), .v (.ins E gs)] from by simp only [List.map, fv, ex, ey]] at this
    exact this
  generalize frz [iy, ix] ρ = ρ at s1 h
  have main : ∀ {H : Hp}, St c ρ n (.v (.tup ys) :: .v (.ins E gs) :: ds) σ H (y :: x :: vs) → ∃ L B a us, StX c L B ρ n (.v (.tup ys) :: .v (.ins E gs) :: ds) σ H (y :: x :: vs) ∧ y = .ref a ∧ TsM K (Mo c (L ++ B)) H a us ∧ RA K c.g (Mo c (L ++ B)) H us ys ∧ R K c.g (Mo c (L ++ B)) H x (.ins E gs) := fun {H} s => by
    obtain ⟨L, B, s⟩ := s
    have r1 := StX.peek (ex := []) (ews := []) (d := .tup ys) (w := y) rfl s
    have r2 := StX.peek (ex := [.v (.tup ys)]) (ews := [y]) (d := .ins E gs) (w := x) (ds := ds) (vs := vs) rfl s
    cases r1 with
    | tup t ra => exact ⟨L, B, _, _, s, rfl, t, ra, r2⟩
  obtain ⟨L, B, a, us, s2, rfl, ht, ra, rx⟩ := main s1
  refine ⟨a, us, rfl, ht.sqt, ?_⟩
  have fin : ∀ {H : Hp} {b : Bool}, b = ys.any q → St c ρ n (.v (.tup ys) :: .v (.ins E gs) :: ds) σ H (.ref a :: x :: vs) → F (.bl (if neg then !b else b)) H := fun {H b} e s => by
    refine k _ _ _ _ _ h ?_
    have := (s.pop.pop).pushS (v := .bl (if neg then !(ys.any q) else ys.any q)) (d := .bl (if neg then !(ys.any q) else ys.any q)) rfl
    rw [e]
    exact this
  -- the items from i on
  have go : ∀ (m i : Nat) {H : Hp}, us.length - i = m → i ≤ us.length → (ys.take i).any q = false → St c ρ n (.v (.tup ys) :: .v (.ins E gs) :: ds) σ H (.ref a :: x :: vs) → (∃ L B, StX c L B ρ n (.v (.tup ys) :: .v (.ins E gs) :: ds) σ H (.ref a :: x :: vs) ∧ RA K c.g (Mo c (L ++ B)) H us ys) →
      inW K f (lift K sp) x (us.drop i) H fun r H' => F (.bl (if neg then !r else r)) H' := by
    intro m
    induction m with
    | zero =>
      intro i H hm hi hq s _
      have e : i = us.length := by omega
      subst e
      rw [List.drop_length]
      rw [ra.len, List.take_length] at hq
      exact fin hq.symm s
    | succ m ih =>
      intro i H hm hi hq s hra
      have hlt : i < us.length := by omega
      have hlt2 : i < ys.length := by rw [← ra.len]; exact hlt
      rw [List.drop_eq_getElem_cons hlt]
      obtain ⟨L, B, s2, ra2⟩ := hra
      obtain ⟨w, hw, rw'⟩ := ra2.at (List.getElem?_eq_getElem hlt2)
      have ew : us[i] = w := by rw [List.getElem?_eq_getElem hlt] at hw; exact Option.some.inj hw
      have hm2 : ys[i] ∈ ys := List.getElem_mem hlt2
      obtain ⟨⟨fs, efs⟩, hdif⟩ := hy _ hm2
      have rx2 : R K c.g (Mo c (L ++ B)) H x (.ins E gs) := StX.peek (ex := [.v (.tup ys)]) (ews := [.ref a]) (d := .ins E gs) (w := x) (ds := ds) (vs := vs) rfl s2
      have rw2 : R K c.g (Mo c (L ++ B)) H w (.ins C fs) := by rw [← efs]; exact rw'
      obtain ⟨a1, dx, fv, e1, h1⟩ := RA.insAt rw2
      obtain ⟨b1, dy, gv, e2, h2⟩ := RA.insAt rx2
      subst e2
      rw [ew, e1]
      have hany : ∀ b, q ys[i] = b → (ys.take (i + 1)).any q = b := fun b hb => by
        rw [List.take_add_one, List.getElem?_eq_getElem hlt2, List.any_append, hq]
        simp [hb]
      have htrue : q ys[i] = true → true = ys.any q := fun hb => (List.any_eq_true.mpr ⟨_, hm2, hb⟩).symm
      refine ⟨a1, b1, C, dx, fv, E, dy, gv, rfl, rfl, h1, h2, ec, fun e u => ?_, fun ne => ?_⟩
      · refine fin (htrue ?_) s
        cases hb : q ys[i] with
        | true => rfl
        | false =>
          obtain ⟨k', hk⟩ := hdif hb
          rw [e1, e] at rw'
          exact (dif_sound u k' rw' rx2 hk).elim
      · refine ⟨⟨c.g, c.k, c.ns, Mo c (L ++ B), H⟩, n, [ys[i], .ins E gs], _, fun _ _ _ => False, ⟨rfl, s2.hat, .inl s2.mg, .inl s2.ml, s2.at, .cons (by rw [← e1]; exact rw') (.cons rx2 .nil), fun it m' v H2 q2 k2 h3 r2 => ?_, fun C fs n' x H' z => z.elim⟩, hs _ hm2 (fun it m' => it = .v (.bl (q ys[i])) ∧ m' = n) _ ⟨rfl, rfl⟩⟩
        obtain ⟨e3, e4⟩ := q2
        subst e3 e4
        cases (show R K c.g _ H2 v (.bl (q ys[i])) from r2)
        refine ⟨_, rfl, ?_⟩
        have s3 := s2.kept k2 h3
        cases hb : q ys[i] with
        | true =>
          rw [if_pos rfl]
          exact fin (htrue hb) ⟨L, B, s3⟩
        | false =>
          rw [if_neg Bool.false_ne_true]
          refine ih (i + 1) (by omega) (by omega) (hany _ hb) ⟨L, B, s3⟩ ⟨L, B, s3, ?_⟩
          exact ra2.mv fun b o nb hb => ⟨nb, k2 b o (fun e => nb (.inl (e ▸ s2.mg))) hb⟩
  have := go us.length 0 (by omega) (by omega) rfl ⟨L, B, s2⟩ ⟨L, B, s2, ra⟩
  rw [List.drop_zero] at this
  exact this
def eqL (q : D → D → Bool) (xs ys : List D) : Bool := xs.length == ys.length && (xs.zip ys).all fun p => q p.1 p.2
theorem tupO_ {neg : Bool} {ix iy : I} {C E : Addr} {xs ys : List D} {q : D → D → Bool} (ex : ix.val = .tup xs) (ey : iy.val = .tup ys) (hxy : ∀ x ∈ xs, ∀ y ∈ ys, (∃ fs, x = .ins C fs) ∧ (∃ gs, y = .ins E gs) ∧ (q x y = false → ∃ k, dif k x y = true))
    (ec : xs ≠ [] → ys ≠ [] → HP.EqCls K C E f) (hs : ∀ x ∈ xs, ∀ y ∈ ys, ∀ (P : I → Nat → Prop) (Z : XD), (P (.v (.bl (q x y))) n) → sp [x, y] n P Z) (h : Q (.v (.bl (if neg then !(eqL q xs ys) else eqL q xs ys))) (frz [iy, ix] ρ) n) : GO c ρ n ds (rTupO neg K f (lift K sp)) ix iy Q := fun σ H vs x y F s k => by
  have s1 : St c (frz [iy, ix] ρ) n (.v (.tup ys) :: .v (.tup xs) :: ds) σ H (y :: x :: vs) := by
    have := St.frzs (is := [iy, ix]) (ws := [y, x]) rfl s
    rw [show [iy, ix].map fv = [.v (.tup ys), .v (.tup xs)] from by simp only [List.map, fv, ex, ey]] at this
    exact this
  generalize frz [iy, ix] ρ = ρ at s1 h
  obtain ⟨L, B, s2⟩ := s1
  have r1 := StX.peek (ex := []) (ews := []) (d := .tup ys) (w := y) rfl s2
  have r2 := StX.peek (ex := [.v (.tup ys)]) (ews := [y]) (d := .tup xs) (w := x) (ds := ds) (vs := vs) rfl s2
  cases r1 with
  | @tup b ws _ tb rb =>
  cases r2 with
  | @tup a us _ ta ra =>
  refine ⟨a, b, us, ws, rfl, rfl, ta.sqt, tb.sqt, ?_⟩
  have fin : ∀ {H : Hp} {r : Bool}, r = eqL q xs ys → St c ρ n (.v (.tup ys) :: .v (.tup xs) :: ds) σ H (.ref b :: .ref a :: vs) → F (.bl (if neg then !r else r)) H := fun {H r} e s => by
    refine k _ _ _ _ _ h ?_
    have := (s.pop.pop).pushS (v := .bl (if neg then !(eqL q xs ys) else eqL q xs ys)) (d := .bl (if neg then !(eqL q xs ys) else eqL q xs ys)) rfl
    rw [e]
    exact this
  have go : ∀ (m i : Nat) {H : Hp}, us.length + ws.length - i = m → i ≤ us.length → i ≤ ws.length → ((xs.zip ys).take i).all (fun p => q p.1 p.2) = true → (∃ L B, StX c L B ρ n (.v (.tup ys) :: .v (.tup xs) :: ds) σ H (.ref b :: .ref a :: vs) ∧ RA K c.g (Mo c (L ++ B)) H us xs ∧ RA K c.g (Mo c (L ++ B)) H ws ys) →
      eqW K f (lift K sp) (us.drop i) (ws.drop i) H fun r H' => F (.bl (if neg then !r else r)) H' := by
    intro m
    induction m with
    | zero =>
      intro i H hm hi hj hq ⟨L, B, s, ra, rb⟩
      have e1 : us = [] := List.eq_nil_of_length_eq_zero (by omega)
      have e2 : ws = [] := List.eq_nil_of_length_eq_zero (by omega)
      subst e1 e2
      cases ra
      cases rb
      rw [List.drop_nil]
      exact fin rfl ⟨L, B, s⟩
    | succ m ih =>
      intro i H hm hi hj hq ⟨L, B, s, ra, rb⟩
      rcases Nat.lt_or_ge i us.length with h1 | h1
      · rcases Nat.lt_or_ge i ws.length with h2 | h2
        · have k1 : i < xs.length := by rw [← ra.len]; exact h1
          have k2 : i < ys.length := by rw [← rb.len]; exact h2
          rw [List.drop_eq_getElem_cons h1, List.drop_eq_getElem_cons h2]
          obtain ⟨u, hu, ru⟩ := ra.at (List.getElem?_eq_getElem k1)
          obtain ⟨w, hw, rw'⟩ := rb.at (List.getElem?_eq_getElem k2)
          rw [List.getElem?_eq_getElem h1] at hu
          rw [List.getElem?_eq_getElem h2] at hw
          rw [Option.some.inj hu, Option.some.inj hw]
          have m1 : xs[i] ∈ xs := List.getElem_mem k1
          have m2 : ys[i] ∈ ys := List.getElem_mem k2
          obtain ⟨⟨fs, efs⟩, ⟨gs, egs⟩, hdif⟩ := hxy _ m1 _ m2
          have ru2 : R K c.g (Mo c (L ++ B)) H u (.ins C fs) := by rw [← efs]; exact ru
          have rw2 : R K c.g (Mo c (L ++ B)) H w (.ins E gs) := by rw [← egs]; exact rw'
          obtain ⟨a1, dx, fv, e1, g1⟩ := RA.insAt ru2
          obtain ⟨b1, dy, gv, e2, g2⟩ := RA.insAt rw2
          subst e1 e2
          have hz : (xs.zip ys)[i]? = some (xs[i], ys[i]) := by
            rw [List.getElem?_zip_eq_some]
            exact ⟨List.getElem?_eq_getElem k1, List.getElem?_eq_getElem k2⟩
          have hall : q xs[i] ys[i] = true → ((xs.zip ys).take (i + 1)).all (fun p => q p.1 p.2) = true := fun hb => by
            rw [List.take_add_one, hz, List.all_append, hq]
            simp [hb]
          have hfalse : q xs[i] ys[i] = false → false = eqL q xs ys := fun hb => by
            have hm3 : (xs[i], ys[i]) ∈ xs.zip ys := List.mem_of_getElem? hz
            have : ((xs.zip ys).all fun p => q p.1 p.2) = false := by
              rw [List.all_eq_false]
              exact ⟨_, hm3, by rw [hb]; exact Bool.false_ne_true⟩
            rw [eqL, this, Bool.and_false]
          have nx : xs ≠ [] := fun e => by rw [e] at k1; cases k1
          have ny : ys ≠ [] := fun e => by rw [e] at k2; cases k2
          refine ⟨a1, b1, C, dx, fv, E, dy, gv, rfl, rfl, g1, g2, ec nx ny, fun e uq => ?_, fun ne => ?_⟩
          · refine ih (i + 1) (by omega) (by omega) (by omega) (hall ?_) ⟨L, B, s, ra, rb⟩
            cases hb : q xs[i] ys[i] with
            | true => rfl
            | false =>
              obtain ⟨k', hk⟩ := hdif hb
              rw [← e] at rw'
              exact (dif_sound uq k' ru rw' hk).elim
          · refine ⟨⟨c.g, c.k, c.ns, Mo c (L ++ B), H⟩, n, [xs[i], ys[i]], _, fun _ _ _ => False, ⟨rfl, s.hat, .inl s.mg, .inl s.ml, s.at, .cons ru (.cons rw' .nil), fun it m' v H2 q2 k2 h3 r2 => ?_, fun C fs n' x H' z => z.elim⟩, hs _ m1 _ m2 (fun it m' => it = .v (.bl (q xs[i] ys[i])) ∧ m' = n) _ ⟨rfl, rfl⟩⟩
            obtain ⟨e3, e4⟩ := q2
            subst e3 e4
            cases (show R K c.g _ H2 v (.bl (q xs[i] ys[i])) from r2)
            refine ⟨_, rfl, ?_⟩
            have s3 := s.kept k2 h3
            have mv : Mv (Mo c (L ++ B)) (Mo c (L ++ B)) H H2 := fun b o nb hb => ⟨nb, k2 b o (fun e => nb (.inl (e ▸ s.mg))) hb⟩
            cases hb : q xs[i] ys[i] with
            | true =>
              rw [if_pos rfl]
              exact ih (i + 1) (by omega) (by omega) (by omega) (hall hb) ⟨L, B, s3, ra.mv mv, rb.mv mv⟩
            | false =>
              rw [if_neg Bool.false_ne_true]
              exact fin (hfalse hb) ⟨L, B, s3⟩
        · have e : i = ws.length := by omega
          have hne : false = eqL q xs ys := by
            rw [eqL, show (xs.length == ys.length) = false from by rw [beq_eq_false_iff_ne, ← ra.len, ← rb.len]; omega, Bool.false_and]
          rw [List.drop_of_length_le (show ws.length ≤ i by omega), List.drop_eq_getElem_cons h1]
          exact fin hne ⟨L, B, s⟩
      · rcases Nat.lt_or_ge i ws.length with h2 | h2
        · have hne : false = eqL q xs ys := by
            rw [eqL, show (xs.length == ys.length) = false from by rw [beq_eq_false_iff_ne, ← ra.len, ← rb.len]; omega, Bool.false_and]
          rw [List.drop_of_length_le h1, List.drop_eq_getElem_cons h2]
          exact fin hne ⟨L, B, s⟩
        · rw [List.drop_of_length_le h1, List.drop_of_length_le h2]
          refine fin ?_ ⟨L, B, s⟩
          have l1 : xs.length = i := by rw [← ra.len]; omega
          have l2 : ys.length = i := by rw [← rb.len]; omega
          have : (xs.zip ys).take i = xs.zip ys := List.take_of_length_le (by rw [List.length_zip]; omega)
          rw [this] at hq
          rw [eqL, hq, l1, l2, Bool.and_true, beq_self_eq_true]
  have := go _ 0 rfl (Nat.zero_le _) (Nat.zero_le _) rfl ⟨L, B, s2, ra, rb⟩
  rw [List.drop_zero, List.drop_zero] at this
  exact this
theorem notO_ {ta : TE} {f1 f2 : Addr} (h : GE c ρ n ds ta fun it ρ' n' => ∃ C fs b, it.val = .ins C fs ∧ ((HB.BoolCls K C f1 ∧ b = true) ∨ (HB.BoolCls K C f2 ∧ b = false)) ∧ Q (.v (.bl (!b))) ρ' n') : GE c ρ n ds (tNotO (fun x H Q => HB.rTruB K f1 true x H Q ∨ HB.rTruB K f2 false x H Q) ta) Q := fun σ H vs F s k =>
  h σ H vs _ s fun it ρ' n' x H' ⟨C, fs, b, e, hb, q⟩ ⟨L, B, s⟩ => by
    obtain ⟨B', lx, s2, mv, hx⟩ := s.it1
    obtain ⟨a, dx, fv, rfl, ha, rf⟩ := hx.ins s.sl e
    have fin := k _ _ _ _ _ q ⟨L, B', s2.pushR (.bl (!b))⟩
    rcases hb with ⟨hb, rfl⟩ | ⟨hb, rfl⟩
    · exact .inl ⟨a, C, dx, fv, rfl, ha, hb, fin⟩
    · exact .inr ⟨a, C, dx, fv, rfl, ha, hb, fin⟩
end
end HIn
/-! methods called by names alone; len(set(a list of integers)) -/
namespace HIn
open PySem PySem.Spec PyProof.Rows L2 HX
/-! one position, then names -/
def perm1 (idx : List Nat) {α : Type} (d : α) (us ws : List α) : List α := if us.length = 1 ∧ ws.length = idx.length then us ++ idx.map fun i => ws.getD i d else []
theorem kb_mk1 {K : PySem.W.Frag} {fd : FuncData} {ps ks : List Str} {idx : List Nat} (hp : (ps.length == 0) = false) (h : ∀ (u : Value) (ws : List Value), ws.length = idx.length → bindArgs fd ⟨[u], ks.zip ws⟩ = pure (ps.zip (u :: idx.map fun i => ws.getD i .none)))
    (hr : ∀ {vs zs : List V} {us ws : List Value}, Vals vs us → Vals zs ws → Vals (perm1 idx .non vs zs) (perm1 idx .none us ws)) : KBinds K fd ps ks (perm1 idx .none) (perm1 idx .non) := by
  refine ⟨fun s us ws _ hl => ?_, hr⟩
  unfold perm1 at hl ⊢
  by_cases z : us.length = 1 ∧ ws.length = idx.length
  · rw [if_pos z]
    match us, z.1 with
    | [u], _ => exact .of_eq (h u ws z.2)
  · rw [if_neg z] at hl
    have : ps.length = 0 := hl.symm
    rw [this] at hp
    cases hp
theorem perm1_rel {idx : List Nat} {vs zs : List V} {us ws : List Value} (r : Vals vs us) (rz : Vals zs ws) : Vals (perm1 idx .non vs zs) (perm1 idx .none us ws) := by
  unfold perm1
  rw [r.length, rz.length]
  by_cases h : us.length = 1 ∧ ws.length = idx.length
  · rw [if_pos h, if_pos h]
    match us, vs, r, h.1 with
    | [u], [v], .cons ru .nil, _ =>
      refine .cons ru ?_
      clear h
      induction idx with
      | nil => exact .nil
      | cons i t ih => exact .cons (HB.getD_rel rz i) ih
  · rw [if_neg h, if_neg h]
    exact .nil
def tMethK0 (C : Addr) (m : Str) (sp : Sp) (gV : List V → List V → List V) (E : XK) (ta : TE) (tk : TA) : TE := fun σ H Q => ta σ H fun x H1 => ∃ a dx fs, x = .ref a ∧ H1 a = some (.ins C dx fs) ∧ fs.lookup m = none ∧ tk σ H1 fun zs H2 => sp (gV [x] zs) H2 Q E
theorem pe_methK0 {X : Cx} {CX : CXT} {k : Nat} {C f : Addr} {fd : FuncData} {ps ks : List Str} {m : Str} {sp : Sp} {E : XK} {o : Expr} {kws : List Keyword} {ta : TE} {tk : TA} {apos pos : Pos} {pl : Sem Bool} {g : List Value → List Value → List Value} {gV : List V → List V → List V}
    (he : PE X o ta) (c : Cls X.K C) (hm : Meth X.K C m f) (F : FnOk X.prog X.w X.K X.mg X.base CX k f fd ps sp) (hr : Room k X.A) (hb : KBinds X.K fd ps ks g gV) (hx : Passes CX X E) (hkw : PK X kws tk)
    (hall : (backToKw pos (keywordEach kws X.env)).all (·.1.isSome) = true := by rfl) (hks : (backToKw pos (keywordEach kws X.env)).filterMap (·.1) = ks := by rfl)
    (hpl : ((backTo pos (starEach [] X.env)).any (·.1) || (backToKw pos (keywordEach kws X.env)).any (·.1.isNone)) = false := by rfl)
    (ht : eval (.Call (.Attribute o m apos) [] kws pos) X.env = (do
      let ov ← eval o X.env
      standAt apos.atName
      let (f, first) ← holding [ov] (getMethod ov m pl)
      callWith pos f first (backTo pos (starEach [] X.env)) (backToKw pos (keywordEach kws X.env))) := by rfl) :
    PE X (.Call (.Attribute o m apos) [] kws pos) (tMethK0 C m sp gV E ta tk) := by
  refine ⟨fun pins s σ H Q I h => ?_⟩
  refine PySem.W.methodCall_KW (pl := pl) (thn (he.run pins s σ H _ I h) fun u s1 ⟨x, H1, I1, rx, a, dx, fs, ex, ea, l, q⟩ => ?_) ht
  subst ex
  obtain rfl : u = Value.ref a := rx
  refine getmeth_ok I1 ea c hm l ?_
  refine PySem.W.callWith_KW0 (first := [.ref a]) (h₀ := X.base) I.ok.mod.kin hm.kp hall ?_ hpl
  refine thn (hkw.run pos pins s1 σ H1 _ I1 q) fun ws s2 ⟨zs, H2, I2, rz, q2⟩ => ⟨I2.kIn, ?_⟩
  rw [hks]
  exact run_fnk (us := [.ref a]) (vs := [.ref a]) F hr hb hx I2 (.cons rfl .nil) rz q2
/-! len(set(xs)) -/
def tLenSetA (K : PySem.W.Frag) (ta : TE) : TE := fun σ H Q => ta σ H fun x H1 => ∃ (l : Addr) (ns : List Int), x = .ref l ∧ SqL K H1 l (ns.map V.int) ∧ ns.length ≤ 4000 ∧ ∀ us : List Int, us.Nodup → (∀ k, k ∈ us ↔ k ∈ ns) → Q (.int (us.length : Nat)) H1
theorem getD_range (ns : List Int) : (List.range ns.length).map (fun i => ns.getD i 0) = ns := by
  apply List.ext_getElem
  · rw [List.length_map, List.length_range]
  · intro i h1 h2
    rw [List.getElem_map, List.getElem_range, List.getD_eq_getElem?_getD, List.getElem?_eq_getElem h2]
    rfl
theorem dedup_go (ns : List Int) : ∀ acc : List Int, acc.Nodup → (ns.foldl step_dedup acc).Nodup ∧ ∀ k, k ∈ ns.foldl step_dedup acc ↔ k ∈ acc ∨ k ∈ ns := by
  induction ns with
  | nil => intro acc h; exact ⟨h, fun k => by simp⟩
  | cons x ns ih =>
    intro acc h
    rw [List.foldl_cons]
    unfold step_dedup
    by_cases hx : acc.any (· == x) = true
    · have hm : x ∈ acc := by
        obtain ⟨y, hy, e⟩ := List.any_eq_true.mp hx
        have := eq_of_beq e
        rwa [this] at hy
      rw [if_pos hx]
      obtain ⟨h1, h2⟩ := ih acc h
      refine ⟨h1, fun k => (h2 k).trans ⟨fun z => z.elim .inl fun z => .inr (List.mem_cons_of_mem _ z), fun z => z.elim .inl fun z => ?_⟩⟩
      rcases List.mem_cons.mp z with rfl | z
      · exact .inl hm
      · exact .inr z
    · rw [if_neg hx]
      have hm : x ∉ acc := fun z => hx (List.any_eq_true.mpr ⟨x, z, beq_self_eq_true x⟩)
      have hn : (acc ++ [x]).Nodup := by
        rw [List.nodup_append]
        exact ⟨h, List.nodup_cons.mpr ⟨by simp, List.nodup_nil⟩, fun a ha b hb e => by rw [List.mem_singleton.mp hb] at e; rw [e] at ha; exact hm ha⟩
      obtain ⟨h1, h2⟩ := ih (acc ++ [x]) hn
      refine ⟨h1, fun k => (h2 k).trans ⟨fun z => z.elim (fun z => ?_) fun z => .inr (List.mem_cons_of_mem _ z), fun z => z.elim (fun z => .inl (List.mem_append_left _ z)) fun z => ?_⟩⟩
      · rcases List.mem_append.mp z with z | z
        · exact .inl z
        · rw [List.mem_singleton.mp z]; exact .inr (List.mem_cons_self ..)
      · rcases List.mem_cons.mp z with rfl | z
        · exact .inl (List.mem_append_right _ (List.mem_cons_self ..))
        · exact .inr z
theorem firstMet_dedup (ns : List Int) : (firstMet (fun i => ns.getD i 0) ns.length).Nodup ∧ ∀ k, k ∈ firstMet (fun i => ns.getD i 0) ns.length ↔ k ∈ ns := by
  unfold firstMet
  rw [getD_range]
  obtain ⟨h1, h2⟩ := dedup_go ns [] List.nodup_nil
  exact ⟨h1, fun k => (h2 k).trans ⟨fun z => z.elim (fun z => by cases z) id, .inr⟩⟩
theorem pe_lenSetA {X : Cx} {K : PySem.W.Frag} {a : Expr} {ta : TE} {p p2 q pos : Pos} (hg : Gl X "len") (hm : X.mg "len" = none) (hg2 : Gl X "set") (hm2 : X.mg "set" = none) (ha : PE X a ta) (hc : X.calm = true := by rfl)
    (na : starEach [a] X.env = (false, eval a X.env) :: starEach [] X.env := by rfl) (hK : X.K = K := by rfl) : PE X (.Call (.Name "len" p) [.Call (.Name "set" p2) [a] [] q] [] pos) (tLenSetA K ta) := by
  cases hK
  refine ⟨fun pins s σ H Q I h => ?_⟩
  refine Call_ (ld_blt I hg hm boot_len ?_)
  refine PyProof.Rows.callWith_builtin1 (PyProof.Rows.args_cons ?_ rfl) rfl rfl
  refine Call_ (ld_blt I hg2 hm2 boot_set ?_)
  refine PyProof.Rows.callWith_type1 (PyProof.Rows.args_cons (thn (ha.run pins s σ H _ I h) fun v s1 ⟨x, H1, I1, r1, q1⟩ => PyProof.Rows.args_nil ?_) na) na rfl
  obtain ⟨l, ns, rfl, hq, hl, q1⟩ := q1
  cases r1
  obtain ⟨its, r, pl, hz⟩ := I1.list hq
  have hlen : its.toArray.size = ns.length := by rw [List.size_toArray, ← r.length, List.length_map]
  refine call_set_list (I1.ok.hd hc) pl.isList (by simpa using RZ.intsAre_vals r) (by rw [hlen]; unfold scanBound; omega) fun h' tk hS hk => ?_
  refine PyProof.Rows.args_nil ?_
  rw [hlen] at hS
  obtain ⟨d1, d2⟩ := firstMet_dedup ns
  have hle : (firstMet (fun i => ns.getD i 0) ns.length).length ≤ ns.length := firstMet_length_le _ _
  have q2 := q1 _ d1 d2
  generalize firstMet (fun i => ns.getD i 0) ns.length = us at hS hle q2
  obtain ⟨o, es, ep, t, ho, hex, hd, _, _, _, hf, hn⟩ := hS
  have I2 : Inv X pins σ H1 { s1 with heap := h', toks := tk } := I1.kept fun b o e => hk b o (Heap.lt_size e) e
  exact call_len_set ho hex hd hf (by rw [hn] <;> omega) ⟨.int us.length, H1, I2.tok _, ⟨_, by rw [hn]⟩, q2⟩
open HD
section
variable {K : PySem.W.Frag} {c : Wd K} {ρ : List S} {n : Nat} {ds : List I} {Q : QI}
theorem lenSet_ {ta : TE} (h : GE c ρ n ds ta fun it ρ' n' => ∃ ns : List Int, it.val = .lst (ns.map D.int) ∧ ns.length ≤ 4000 ∧ ∀ us : List Int, us.Nodup → (∀ k, k ∈ us ↔ k ∈ ns) → Q (.v (.int (us.length : Nat))) ρ' n') : GE c ρ n ds (tLenSetA K ta) Q := fun σ H vs F s k =>
  h σ H vs _ s fun it ρ' n' x H' ⟨ns, e, hl, q⟩ ⟨L, B, s⟩ => by
    have s' := s
    obtain ⟨a, ws, rfl, ha, ra⟩ := s.ls e
    have hw := ra.ints
    subst hw
    exact ⟨a, ns, rfl, SqL.of ha, hl, fun us h1 h2 => k _ _ _ _ _ (q us h1 h2) ((St.pop ⟨L, B, s'⟩).pushS rfl)⟩
def permD1 (idx : List Nat) (xs ds : List D) : List D := if xs.length = 1 ∧ ds.length = idx.length then xs ++ idx.map fun i => ds.getD i .non else []
theorem RA.perm1 {g : Addr} {M : Addr → Prop} {H : Hp} {idx : List Nat} {us ws : List V} {xs ds : List D} (h0 : RA K g M H us xs) (h : RA K g M H ws ds) : RA K g M H (HIn.perm1 idx .non us ws) (permD1 idx xs ds) := by
  unfold HIn.perm1 permD1
  rw [h.len, h0.len]
  by_cases e : xs.length = 1 ∧ ds.length = idx.length
  · rw [if_pos e, if_pos e]
    refine h0.append ?_
    clear e
    induction idx with
    | nil => exact .nil
    | cons i t ih => exact .cons (h.getD i) ih
  · rw [if_neg e, if_neg e]; exact .nil
theorem methK_ {C : Addr} {m : Str} {sp : SpD} {idx : List Nat} {ta : TE} {t : TA} (h : GE c ρ n ds ta fun it ρ1 n1 => ∃ fs, it.val = .ins C fs ∧ fs.lookup m = none ∧ GA c ρ1 n1 (it :: ds) t fun its ρ2 n2 => sp (permD1 idx [.ins C fs] (its.map I.val)) n2 (fun i n3 => Q i (frz (it :: its) ρ2) n3) fun _ _ _ => False) :
    GE c ρ n ds (tMethK0 C m (lift K sp) (HIn.perm1 idx .non) E0 ta t) Q := fun σ H vs F s k =>
  h σ H vs _ s fun it ρ1 n1 x H1 ⟨fs, e, hm, q⟩ s1 => by
    have s1' := s1
    obtain ⟨L, B, s1⟩ := s1
    obtain ⟨B', lx, s2, mv, hx⟩ := s1.it1
    obtain ⟨a, dx, fv, rfl, ha, rf⟩ := hx.ins s1.sl e
    refine ⟨a, dx, fv, rfl, ha, HY.RF.none rf hm, ?_⟩
    refine q σ H1 (.ref a :: vs) _ s1' fun its ρ2 n2 ys H2 q2 hl s3 => ?_
    have s4 := St.rot' (is := its) (ws := ys) hl s3
    obtain ⟨L, B, s5, ra⟩ := items (is := it :: its) (ws := V.ref a :: ys) (by simp [hl]) s4
    cases ra with
    | cons ra0 rar =>
    refine ⟨⟨c.g, c.k, c.ns, Mo c (L ++ B), H2⟩, n2, _, _, _, ⟨rfl, s5.hat, .inl s5.mg, .inl s5.ml, s5.at, RA.perm1 (.cons ra0 .nil) rar, fun it m v H2 q2 k2 h2 r2 => ?_, fun C fs n' x H' (z : False) => z.elim⟩, by rw [e]; exact q2⟩
    cases it with
    | v d => exact k _ _ _ _ _ q2 ⟨L, B, (s5.kept k2 h2).pushR r2⟩
    | b _ _ => exact r2.elim
    | o ys =>
      obtain ⟨p, rfl, hp, np, rr⟩ := r2
      exact k _ _ _ _ _ q2 ⟨L, _, s5.ownNew k2 h2 hp rr⟩
/-! what a slot owns is made fast -/
theorem St.fz {σ : L2.St} {H : Hp} {vs : List V} {i : Nat} {d : D} (e : ρ[i]? = some (.ow d)) (s : St c ρ n ds σ H vs) : St c (ρ.set i (.v d)) n ds σ H vs := by
  have h := varO_ (c := c) (n := n) (ds := ds) (Q := fun it ρ' n' => it = .b i d ∧ ρ' = ρ ∧ n' = n) e ⟨rfl, rfl, rfl⟩ σ H vs (fun v H' => H' = H → St c (ρ.set i (.v d)) n ds σ H vs) s (fun it ρ' n' v H' ⟨e1, e2, e3⟩ s' eH => by
    subst e1 e2 e3 eH
    have s2 := s'.frz1
    have e4 : frz1 ρ' (.b i d) = ρ'.set i (.v d) := by simp only [frz1, e]
    rw [e4] at s2
    exact s2.pop)
  obtain ⟨x, _, hF⟩ := h
  exact hF rfl
theorem fz_ {t : TS} {D' : Es} (i : Nat) {d : D} (e : ρ[i]? = some (.ow d)) (h : GS c (ρ.set i (.v d)) n ds t D') : GS c ρ n ds t D' := fun σ H vs E s k => h σ H vs E (St.fz e s) k
end
end HIn
/-! x in a tuple of data -/
namespace HIn
open PySem PySem.Spec PyProof.Rows L2 HX
def rInT (neg : Bool) (K : PySem.W.Frag) : R2 := fun x y H Q => ∃ d ds, Dp K H x d ∧ Dp K H y (.tuple ds) ∧ SeqAt.shaped d = true ∧ SeqAt.shaped (.tuple ds) = true ∧ Q (.bl (if neg then !(ds.any fun z => PyData.eqv z d) else ds.any fun z => PyData.eqv z d)) H
theorem op_inT {X : Cx} {K : PySem.W.Frag} (hu : X.A.units + 65 < cLine) (hK : X.K = K := by rfl) : OpR X (compareOp .In) (rInT false K) := by
  cases hK
  intro pins s σ H x y v u Q I rx ry h
  obtain ⟨d, ds, hd, he, sd, se, q⟩ := h
  obtain ⟨as, r1⟩ := Dp.reads I d x v hd rx
  obtain ⟨bs, r2⟩ := Dp.reads I (.tuple ds) y u he ry
  exact SeqAt.in_tuple_reads r2 r1 (SeqAt.canLay_of_shaped se) (SeqAt.canLay_of_shaped sd) (room_in_shaped sd hu) ⟨.bl _, H, I, rfl, q⟩
theorem op_niT {X : Cx} {K : PySem.W.Frag} (hu : X.A.units + 65 < cLine) (hK : X.K = K := by rfl) : OpR X (compareOp .NotIn) (rInT true K) := by
  cases hK
  intro pins s σ H x y v u Q I rx ry h
  obtain ⟨d, ds, hd, he, sd, se, q⟩ := h
  obtain ⟨as, r1⟩ := Dp.reads I d x v hd rx
  obtain ⟨bs, r2⟩ := Dp.reads I (.tuple ds) y u he ry
  exact SeqAt.notIn_tuple_reads r2 r1 (SeqAt.canLay_of_shaped se) (SeqAt.canLay_of_shaped sd) (room_in_shaped sd hu) ⟨.bl _, H, I, rfl, q⟩
open HD
section
variable {K : PySem.W.Frag} {c : Wd K} {ρ : List S} {n : Nat} {ds : List I} {Q : QI}
theorem inT_ {neg : Bool} (k j : Nat) {ix iy : I} {xs : List D} (e : iy.val = .tup xs) (ha : HS2.nob k ix.val = true) (hb : ∀ x ∈ xs, HS2.nob j x = true) (hk : Nat.ble k 64 = true) (hj : Nat.ble (j + 1) 64 = true) (h : Q (.v (.bl (if neg then !(HS2.inB ix.val xs) else HS2.inB ix.val xs))) ρ n) : GO c ρ n ds (rInT neg K) ix iy Q := fun σ H vs x y F ⟨L, B, s⟩ kk => by
  have hl : HS2.nob (j + 1) (.tup xs) = true := by rw [HS2.nob_tup, List.all_eq_true]; exact hb
  have hy : D.dats xs = true := HS2.dats_of fun x hx => (HS2.nob_ok _ _ (hb x hx)).1
  have sy := HS2.nob_shaped hl hj
  obtain ⟨B', lx, ly, s2, mv, hx', hy'⟩ := s.it2
  have d1 := hx'.dpv s.sl (HS2.nob_ok _ _ ha).1
  have d2 := hy'.dpv s.sl (by rw [e, D.dat]; exact hy)
  rw [e, D.py] at d2
  rw [D.py] at sy
  refine ⟨_, _, d1, d2, HS2.nob_shaped ha hk, sy, ?_⟩
  rw [HS2.any_nob ha hb]
  exact kk _ _ _ _ _ h ⟨L, B', s2.pushR (.bl _)⟩
end
end HIn
/-! exceptions in the walk on data: calls that raise, raise, try .. except X as e, e.f -/
namespace HD
open PySem PySem.Spec PyProof.Rows L2 HX
abbrev XW := Addr → List (Str × D) → List S → Nat → Prop
section
variable {K : PySem.W.Frag} {c : Wd K} {ρ : List S} {n : Nat} {ds : List I} {Q : QI} {L B : List Addr} {σ : L2.St} {H : Hp} {vs : List V}
/-- what a handler wishes, told of data: nothing pends -/
def WOk (c : Wd K) (W : WX) (X : XW) : Prop := ∀ (C : Addr) (fs : List (Str × D)) (ρ : List S) (n : Nat) (σ : L2.St) (H : Hp) (d : Addr) (fv : List (Str × V)) (L : List Addr), X C fs ρ n → StX c L [] ρ n [] σ H [] → ¬ Mo c (L ++ []) d → H d = some (.xd fv) → RF K c.g (Mo c (L ++ [])) H fv fs → W (.ref C) (some d) σ H
theorem drop_sub (L B : List Addr) : ∀ a ∈ L ++ [], a ∈ L ++ B := fun a ha => by rw [List.append_nil] at ha; exact List.mem_append_left _ ha
theorem StX.drop (s : StX c L B ρ n ds σ H vs) : StX c L [] ρ n [] σ H [] :=
  ⟨s.sl.mv (mv_less (mo_less (drop_sub L B))) fun _ _ _ h => h, .nil, s.nd.sublist ((List.Sublist.refl L).append (List.nil_sublist B)), fun a ha => s.fr a (drop_sub L B a ha), s.kp, s.hat, s.mg, s.ml, s.md⟩
/-- a def called that may raise -/
theorem callX_ {sp : SpD} {W : WX} {t : TA} {X : XW} (hW : WOk c W X) (h : GA c ρ n ds t fun its ρ' n' => sp (its.map I.val) n' (fun it n2 => Q it (frz its ρ') n2) (fun C fs n2 => ∃ f, fs = some f ∧ X C f (frz its ρ') n2)) : GE c ρ n ds (tCallS (lift K sp) (WE W) t) Q := fun σ H vs F s k =>
  h σ H vs _ s fun its ρ' n' xs H' q hl s' => by
    obtain ⟨L, B, s2, ra⟩ := items hl s'
    refine ⟨⟨c.g, c.k, c.ns, Mo c (L ++ B), H'⟩, n', _, _, _, ⟨rfl, s2.hat, .inl s2.mg, .inl s2.ml, s2.at, ra, fun it m v H2 q2 k2 h2 r2 => ?_, fun C fs m x H2 q2 k2 h2 r2 => ?_⟩, q⟩
    · have s3 := s2.kept k2 h2
      cases it with
      | v d => exact k _ _ _ _ _ q2 ⟨L, B, s3.pushR r2⟩
      | b _ _ => exact r2.elim
      | o ys =>
        obtain ⟨p, rfl, hp, np, rr⟩ := r2
        have hp : H' p = none := hp
        have np : ¬ Mo c (L ++ B) p := np
        have npl : p ∉ L ++ B := fun z => np (.inr z)
        have hc : c.H0 p = none := by
          cases z : c.H0 p with
          | none => rfl
          | some o =>
            have : p ≠ c.g := fun e => np (.inl (e ▸ s2.mg))
            have := s2.kp _ _ this z
            rw [hp] at this; cases this
        have mv : Mv (Mo c (L ++ B)) (Mo c (L ++ ([p] ++ B))) H' H2 := fun a o na ho => by
          have ng : a ≠ c.g := fun e => na (.inl (e ▸ s2.mg))
          refine ⟨fun z => ?_, k2 a o ng ho⟩
          rcases z with z | z
          · exact na (.inl z)
          · simp only [List.mem_append, List.mem_singleton] at z
            rcases z with z | z | z
            · exact na (.inr (List.mem_append_left _ z))
            · rw [z, hp] at ho; cases ho
            · exact na (.inr (List.mem_append_right _ z))
        have hk : ∀ a ∈ L ++ B, ∀ o, H' a = some o → H2 a = some o := fun a ha o ho => k2 a o (fun z => (s2.fr a ha).1 (z ▸ s2.mg)) ho
        refine k _ _ _ _ _ q2 ⟨L, [p] ++ B, s2.sl.mv mv fun a ha => hk a (List.mem_append_left _ ha), .cons (l := [p]) (.o (rr.mv (mv_less fun a ha => ?_) fun _ h => h)) (s2.it.mv mv fun a ha => hk a (List.mem_append_right _ ha)), ?_, fun a ha => ?_, s3.kp, s3.hat, s3.mg, s3.ml, s3.md⟩
        · rcases ha with ha | ha
          · exact .inl (.inl ha)
          · simp only [List.mem_append, List.mem_singleton] at ha
            rcases ha with z | z | z
            · exact .inl (.inr (List.mem_append_left _ z))
            · exact .inr z
            · exact .inl (.inr (List.mem_append_right _ z))
        · exact (List.perm_middle (a := p) (l₁ := L) (l₂ := B)).nodup_iff.mpr (List.nodup_cons.mpr ⟨npl, s2.nd⟩)
        · simp only [List.mem_append, List.mem_singleton] at ha
          rcases ha with z | z | z
          · exact s2.fr a (List.mem_append_left _ z)
          · rw [z]; exact ⟨fun q => np (.inl q), hc⟩
          · exact s2.fr a (List.mem_append_right _ z)
    · obtain ⟨f, rfl, hX⟩ := q2
      have s3 := s2.kept k2 h2
      cases x with
      | none => exact r2.elim
      | some d =>
        obtain ⟨fv, nm, hd, rf⟩ := r2
        have nm : ¬ Mo c (L ++ B) d := nm
        exact hW C f _ m σ H2 d fv L hX s3.drop (fun z => nm (mo_less (drop_sub L B) d z)) hd (rf.mv (mv_less (mo_less (drop_sub L B))))
/-! ### an own class's __init__ that keeps its parameters -/
/-- what it leaves of a new exception: its fields, the last one first -/
def spX (C : Addr) (fns : List Str) : Sp := fun vs H Q _ => ∃ a ws, vs = .ref a :: ws ∧ ws.length = fns.length ∧ H a = some (exo a C none) ∧
  ∀ d H', H d = none → d ≠ a → H' a = some (exo a C (some d)) → H' d = some (exd d (fns.zip ws).reverse) → (∀ b, b ≠ a → b ≠ d → H' b = H b) → Q .non H'
theorem RF.append {g : Addr} {M : Addr → Prop} {H : Hp} : ∀ {a a' : List (Str × V)} {b b' : List (Str × D)}, RF K g M H a b → RF K g M H a' b' → RF K g M H (a ++ a') (b ++ b')
  | _, _, _, _, .nil, h => h
  | _, _, _, _, .cons x y, h => .cons x (RF.append y h)
theorem RF.reverse {g : Addr} {M : Addr → Prop} {H : Hp} : ∀ {a : List (Str × V)} {b : List (Str × D)}, RF K g M H a b → RF K g M H a.reverse b.reverse
  | _, _, .nil => .nil
  | _, _, .cons x y => by rw [List.reverse_cons, List.reverse_cons]; exact (RF.reverse y).append (.cons x .nil)
theorem RF.zip {g : Addr} {M : Addr → Prop} {H : Hp} : ∀ {fns : List Str} {ws : List V} {xs : List D}, RA K g M H ws xs → RF K g M H (fns.zip ws) (fns.zip xs)
  | [], _, _, _ => by rw [List.zip_nil_left, List.zip_nil_left]; exact .nil
  | _ :: _, _, _, .nil => .nil
  | _ :: _, _, _, .cons a b => .cons a (RF.zip b)
theorem exinit1 {C : Addr} {f : Str} {a : Addr} {w : V} {Q : VK} {σ : L2.St} {H : Hp} (T : OexC K C) (n1 : NoAttr K C f) (ha : H a = some (exo a C none))
    (q : ∀ d H', H d = none → d ≠ a → H' a = some (exo a C (some d)) → H' d = some (exd d ([f].zip [w]).reverse) → (∀ b, b ≠ a → b ≠ d → H' b = H b) → Q .non H') (e0 : σ[0]? = some (some (.ref a))) (e1 : σ[1]? = some (some w)) :
    tOst K f (tVar 0) (tVar 1) { nx := fun _ H' => Q .non H', rt := Q } σ H := by
  refine ⟨w, e1, .ref a, e0, a, C, rfl, T, n1, .inl ⟨ha, fun dx hd hne => ?_⟩⟩
  refine q dx _ hd hne upd_same (by rw [upd_ne hne, upd_same]; rfl) fun b h1 h2 => by rw [upd_ne h1, upd_ne h2]
theorem exinit2 {C : Addr} {f g : Str} {a : Addr} {w u : V} {Q : VK} {σ : L2.St} {H : Hp} (T : OexC K C) (n1 : NoAttr K C f) (n2 : NoAttr K C g) (ha : H a = some (exo a C none))
    (q : ∀ d H', H d = none → d ≠ a → H' a = some (exo a C (some d)) → H' d = some (exd d ([f, g].zip [w, u]).reverse) → (∀ b, b ≠ a → b ≠ d → H' b = H b) → Q .non H') (e0 : σ[0]? = some (some (.ref a))) (e1 : σ[1]? = some (some w)) (e2 : σ[2]? = some (some u)) :
    tSeq (tOst K f (tVar 0) (tVar 1)) (tOst K g (tVar 0) (tVar 2)) { nx := fun _ H' => Q .non H', rt := Q } σ H := by
  refine ⟨w, e1, .ref a, e0, a, C, rfl, T, n1, .inl ⟨ha, fun dx hd hne => ?_⟩⟩
  refine ⟨u, e2, .ref a, e0, a, C, rfl, T, n2, .inr ⟨dx, [(f, w)], upd_same, by rw [upd_ne hne, upd_same], (by show 1 ≤ 900; omega), ?_⟩⟩
  refine q dx _ hd hne (by rw [upd_ne (Ne.symm hne), upd_same]) (by rw [upd_same]; rfl) fun b h1 h2 => by rw [upd_ne h2, upd_ne h1, upd_ne h2]
/-- raise C(e, ..) -/
theorem raise_ {C : Addr} {fns : List Str} {ta : TA} {W : WX} {X : XW} {nx bk ct : QS} {rt : I → Nat → Prop} (hW : WOk c W X) (hf : Nat.ble fns.length 1000 = true) (h : GA c ρ n ds ta fun its ρ' n' => its.length = fns.length ∧ X C (fns.zip (its.map I.val)).reverse (frz its ρ') n') :
    GS c ρ n ds (fun _ σ H => tMkO C (spX C fns) [] ta σ H fun cls d H' => W cls d σ H') ⟨nx, rt, bk, ct⟩ := fun σ H vs E s k =>
  h σ H vs _ s fun its ρ' n' xs H1 q hl s' => by
    obtain ⟨L, B, s2, ra⟩ := items hl s'
    obtain ⟨hlen, hX⟩ := q
    have hb := Nat.le_of_ble_eq_true hf
    refine ⟨by omega, fun a ha => ⟨a, xs, by rw [List.append_nil], by omega, upd_same, fun d H' hd hne e1 e2 e3 => ⟨rfl, d, _, e1, e2, ?_, ?_⟩⟩⟩
    · rwa [upd_ne hne] at hd
    · have hd1 : H1 d = none := by rwa [upd_ne hne] at hd
      have eq : upd (L2.del H' a) d (.xd (fns.zip xs).reverse) = upd H1 d (.xd (fns.zip xs).reverse) := by
        funext b
        by_cases hb : b = d
        · rw [hb, upd_same, upd_same]
        · rw [upd_ne hb, upd_ne hb]
          by_cases hba : b = a
          · rw [hba, L2.del_same, ha]
          · rw [L2.del_ne hba, e3 b hba hb, upd_ne hba]
      rw [eq]
      have sm : Same H1 (upd H1 d (.xd (fns.zip xs).reverse)) := HX.same_new hd1
      refine hW C _ _ n' σ _ d _ L hX (s2.same sm).drop (fun z => s2.free hd1 (mo_less (drop_sub L B) d z)) upd_same ?_
      exact ((RF.zip (ra.mv (mv_same sm))).reverse).mv (mv_less (mo_less (drop_sub L B)))
/-! ### try .. except X as e -/
def tTryAs (K : PySem.W.Frag) (cv : Value) (i : Nat) (tb : WX → TS) (ts : Addr → Value → Option Addr → TS) (Wout : WX) : TS := fun D σ H => tb (wAs K cv i ts Wout D) D σ H
theorem ps_tryA {X : Cx} {x n : Str} {cv : Value} {i : Nat} {body suite : List Stmt} {b₀ : Stmt} {np pos pos' : Pos} {tb : WX → TS} {ts : Addr → Value → Option Addr → TS} {Wout : WX} {K : PySem.W.Frag} (hs : X.stack = X.env :: X.outer) (hf : X.env.frame = some X.env.locals) (hN : X.N.Nodup) (hi : X.N[i]? = some n) (hln : X.env.kindOf n = some .local) (hc : Names X x cv) (tk : Takes X Wout)
    (hb : ∀ (W : WX) (pn : List (Addr × Obj)) (xe : Value → Shared → Prop), Takes (X.tr pn xe) W → PassesOwn (model X.prog X.w) X.A X.env xe → PSs (X.tr pn xe) body (tb W))
    (hsu : ∀ (a : Addr) (oe : Obj) (cls : Value) (d : Option Addr) (pn : List (Addr × Obj)), Zc cls d oe → (∃ vs, oe.data = .fields vs) → PSs (X.suite a ((a, oe) :: pn)) (b₀ :: suite) (ts a cls d)) (hK : X.K = K := by rfl) :
    PS X (.Try body [.ExceptHandler (some (.Name x np)) (some n) (b₀ :: suite) pos'] [] [] pos) (tTryAs K cv i tb ts Wout) := by
  cases hK
  exact ps_try_as hs hf hN hi hln hc tk hb hsu
/-- a caught exception's fields -/
def XF (c : Wd K) (d : Addr) (fs : List (Str × D)) : Prop := ∃ fv, ¬ c.M0 d ∧ c.H0 d = some (.xd fv) ∧ RF K c.g c.M0 c.H0 fv fs
/-- the world at the handler: what stands there and is nobody's own stays -/
abbrev Wd.at (c : Wd K) (H0 : Hp) : Wd K := ⟨c.g, c.k, c.ns, c.M0, H0⟩
theorem StX.down {H0 : Hp} (s : StX (c.at H0) L B ρ n ds σ H vs) (e : ∀ a o, a ≠ c.g → c.H0 a = some o → H0 a = some o) (md : ∀ a, c.M0 a → ∃ o, c.H0 a = some o) : StX c L B ρ n ds σ H vs :=
  ⟨s.sl, s.it, s.nd, fun a ha => ⟨(s.fr a ha).1, by
    have h := s.fr a ha
    cases z : c.H0 a with
    | none => rfl
    | some o =>
      have ng : a ≠ c.g := fun q => h.1 (q ▸ s.mg)
      have := e a o ng z
      rw [show H0 a = none from h.2] at this; cases this⟩, fun a o n h => s.kp a o n (e a o n h), s.hat, s.mg, s.ml, md⟩
theorem tryAs_ {cv : Value} {i : Nat} {tb : WX → TS} {ts : Addr → Value → Option Addr → TS} {Wout : WX} {X : XW} {D : Es} (hb : ∀ W, WOk c W X → GS c ρ n [] (tb W) D)
    (hh : ∀ C fs ρ' n', X C fs ρ' n' → PySem.W.exmOne K (.ref C) cv = some true ∧ ρ'[i]? = some .un ∧ ∀ (a d : Addr) (H0 : Hp), XF (c.at H0) d fs → GS (c.at H0) (ρ'.set i (.v (.glo a))) n' [] (ts a (.ref C) (some d)) ⟨fun ρ m => D.nx (HD.unset [i] ρ) m, D.rt, fun ρ m => D.bk (HD.unset [i] ρ) m, fun ρ m => D.ct (HD.unset [i] ρ) m⟩) :
    GS c ρ n [] (tTryAs K cv i tb ts Wout) D := fun σ H vs E s k => by
  obtain ⟨L0, B0, s0⟩ := id s
  have ev : vs = [] := by cases s0.it; rfl
  subst ev
  refine hb (wAs K cv i ts Wout E) (fun C fs ρ' n' σ' H' d fv L hX s' nm hd rf => ?_) σ H [] E s k
  obtain ⟨em, hi, hg⟩ := hh C fs ρ' n' hX
  refine ⟨true, em, fun _ a ha => ?_, fun z => nomatch z⟩
  obtain ⟨H0, eH⟩ : ∃ H0 : Hp, H0 = fun b => if b ∈ L then none else H' b := ⟨_, rfl⟩
  have h1 : ∀ b, b ∈ L → H0 b = none := fun b h => by rw [eH]; exact if_pos h
  have h2 : ∀ b, b ∉ L → H0 b = H' b := fun b h => by rw [eH]; exact if_neg h
  have eL : L ++ [] = L := List.append_nil L
  have nmL : ∀ b, c.M0 b → b ∉ L := fun b hb hL => (s'.fr b (by rw [eL]; exact hL)).1 hb
  have e0 : ∀ b o, b ≠ c.g → c.H0 b = some o → H0 b = some o := fun b o nb h => by
    have : b ∉ L := fun hL => by rw [(s'.fr b (by rw [eL]; exact hL)).2] at h; cases h
    rw [h2 b this]
    exact s'.kp b o nb h
  have xf : XF (c.at H0) d fs := by
    have nd : d ∉ L := fun z => nm (.inr (by rw [eL]; exact z))
    refine ⟨fv, fun z => nm (.inl z), by rw [show (c.at H0).H0 = H0 from rfl, h2 d nd]; exact hd, rf.mv fun b o nb ho => ⟨fun z => nb (.inl z), ?_⟩⟩
    have nb2 : b ∉ L := fun z => nb (.inr (by rw [eL]; exact z))
    rw [show (c.at H0).H0 = H0 from rfl, h2 b nb2]
    exact ho
  obtain ⟨L1, l, L2, x, eq, _, sr, put⟩ := s'.sl.at hi
  cases sr
  have s2 : StX (c.at H0) L [] (ρ'.set i (.v (.glo a))) n' [] (σ'.set i (some (.ref a))) H' [] := by
    refine ⟨?_, .nil, s'.nd, fun b hb => ⟨(s'.fr b hb).1, h1 b (by rw [eL] at hb; exact hb)⟩, fun b o nb h => ?_, s'.hat, s'.mg, s'.ml, fun b hb => ?_⟩
    · have := put (l' := []) (SR.v (R.glo a))
      rw [← eq] at this
      exact this
    · by_cases hL : b ∈ L
      · rw [show (c.at H0).H0 b = H0 b from rfl, h1 b hL] at h; cases h
      · rw [show (c.at H0).H0 b = H0 b from rfl, h2 b hL] at h; exact h
    · show ∃ o, H0 b = some o
      rw [h2 b (nmL b hb)]
      exact s'.at b (.inl hb)
  refine hg a d H0 xf _ _ _ _ ⟨L, [], s2⟩ ⟨fun ρ m σ H q st => ?_, fun it m v H q k1 k2 k3 => ?_, fun ρ m σ H q st => ?_, fun ρ m σ H q st => ?_⟩
  · obtain ⟨L', B', st⟩ := st
    exact k.nx _ _ _ _ q (St.unset (own := [i]) rfl ⟨L', B', st.down e0 s'.md⟩)
  · refine k.rt _ _ _ _ q (fun b o nb h => k1 b o nb (e0 b o nb h)) k2 ?_
    cases it with
    | v d => exact k3
    | b _ _ => exact k3.elim
    | o d =>
      obtain ⟨p, e1, e2, e3, e4⟩ := k3
      refine ⟨p, e1, ?_, e3, e4⟩
      cases z : c.H0 p with
      | none => rfl
      | some o =>
        have ng : p ≠ c.g := fun q => e3 (q ▸ s'.mg)
        have := e0 p o ng z
        rw [show H0 p = none from e2] at this; cases this
  · obtain ⟨L', B', st⟩ := st
    exact k.bk _ _ _ _ q (St.unset (own := [i]) rfl ⟨L', B', st.down e0 s'.md⟩)
  · obtain ⟨L', B', st⟩ := st
    exact k.ct _ _ _ _ q (St.unset (own := [i]) rfl ⟨L', B', st.down e0 s'.md⟩)
/-- e.f in the handler -/
theorem xf_ {a C d : Addr} {fs : List (Str × D)} {f : Str} {i : Nat} {dv : D} (hX : XF c d fs) (hρ : ρ[i]? = some (.v (.glo a))) (hl : fs.lookup f = some dv) (q : Q (.v dv) ρ n) : GE c ρ n ds (tXf a (.ref C) (some d) C f (tVar i)) Q := fun σ H vs F s k => by
  obtain ⟨L, B, s⟩ := s
  obtain ⟨fv, nm, hd, rf⟩ := hX
  obtain ⟨_, _, _, x, _, ex, sr, _⟩ := s.sl.at hρ
  have mv : Mv c.M0 (Mo c (L ++ B)) c.H0 H := fun b o nb ho => ⟨(fun z => by
    rcases z with z | z
    · exact nb z
    · rw [(s.fr b z).2] at ho; cases ho), s.kp b o (fun e => nb (e ▸ s.mg)) ho⟩
  obtain ⟨v, hv, r⟩ := (rf.mv mv).at hl
  cases sr with
  | v r2 =>
    cases r2
    exact ⟨_, ex, rfl, rfl, d, fv, v, rfl, (mv d _ nm hd).2, hv, k _ _ _ _ _ q ⟨L, B, s.pushR r⟩⟩
/-- a def that may raise: what its caller wishes -/
theorem wok_of {ds : List D} {Q : VK} {E : XK} {Qd : I → Nat → Prop} {Ed : XD} (k : CallOk c H n vs ds Q E Qd Ed) : WOk c (fun cls d _ H => E cls d H) (fun C fs _ m => Ed C (some fs) m) := fun C fs ρ m σ H' d fv L hX s nm hd rf =>
  k.e C (some fs) m (some d) H' hX (by have := s.kp; rw [k.h0] at this; exact this) s.hat ⟨fv, fun z => nm (.inl z), hd, rf.mv (mv_less fun b hb => .inl hb)⟩
end
end HD
/-! tuples (None, o) compared, o by an own == -/
namespace HIn
open PySem PySem.Spec PyProof.Rows L2 HX
def rTupN (neg : Bool) (K : PySem.W.Frag) (f : Addr) (sp : Sp) : R2 := fun x y H Q => ∃ a b xs ys, x = .ref a ∧ y = .ref b ∧ SqT K H a (.non :: xs) ∧ SqT K H b (.non :: ys) ∧ eqW K f sp xs ys H fun r H' => Q (.bl (if neg then !r else r)) H'
section
variable {X : Cx} {K : PySem.W.Frag} {n : Nat} {f : Addr} {fd : FuncData} {ps : List Str} {sp : Sp}
theorem pairN_run (F : FnOk X.prog X.w X.K X.mg X.base CX0 n f fd ps sp) (hb : Binds X.K fd ps []) (hr : Room (n + 1) X.A) {pins : List (Addr × Obj)} {σ : L2.St} {H : Hp} {s : Shared} {xs ys : List V} {its its2 : List Value} {Q : Bool → Hp → Prop} {P : Bool → Shared → Prop}
    (r : Vals (.non :: xs) its) (r2 : Vals (.non :: ys) its2) (i : Nat) (h1 : i < its.toArray.size) (h2 : i < its2.toArray.size) (I : Inv X pins σ H s) (h : eqW X.K f sp (xs.drop (i - 1)) (ys.drop (i - 1)) H Q)
    (ht : ∀ s' H', Inv X pins σ H' s' → eqW X.K f sp (xs.drop i) (ys.drop i) H' Q → P true s') (hf : ∀ s' H', Inv X pins σ H' s' → Q false H' → P false s') :
    wpAny (model X.prog X.w) X.A.in1 (eqBool its.toArray[i] its2.toArray[i]) P X.xe s := by
  cases i with
  | zero =>
    cases r with
    | cons u t =>
    cases r2 with
    | cons u2 t2 =>
    cases u
    cases u2
    exact SeqAt.EqAt.same (A := X.A.in1) (s := s) .none X.prog X.w _ _ (ht s H I h)
  | succ j =>
    rw [Nat.add_sub_cancel] at h
    exact pair_run F hb hr (xs := .non :: xs) (ys := .non :: ys) r r2 (j + 1) h1 h2 I (by rw [List.drop_succ_cons, List.drop_succ_cons]; exact h) (fun s' H' I' q => ht s' H' I' (by rw [List.drop_succ_cons, List.drop_succ_cons] at q; exact q)) hf
theorem eqWN_fin {xs ys : List V} {H : Hp} {Q : Bool → Hp → Prop} {i : Nat} (e : i = min (xs.length + 1) (ys.length + 1)) (h : eqW K f sp (xs.drop (i - 1)) (ys.drop (i - 1)) H Q) : Q (xs.length + 1 == ys.length + 1) H := by
  have := eqW_fin (i := i - 1) (by omega) h
  have e2 : (xs.length + 1 == ys.length + 1) = (xs.length == ys.length) := by
    cases z : (xs.length == ys.length) with
    | true => rw [beq_iff_eq] at z; rw [z]; exact beq_self_eq_true _
    | false => rw [beq_eq_false_iff_ne] at z; rw [beq_eq_false_iff_ne]; omega
  rw [e2]
  exact this
theorem op_eqTN (F : FnOk X.prog X.w X.K X.mg X.base CX0 n f fd ps sp) (hb : Binds X.K fd ps []) (hr : Room (n + 1) X.A) (hK : X.K = K := by rfl) : OpR X (compareOp .Eq) (rTupN false K f sp) := by
  cases hK
  intro pins s σ H x y v u Q I rx ry h
  obtain ⟨a, b, xs, ys, rfl, rfl, ht1, ht2, q⟩ := h
  cases rx
  cases ry
  obtain ⟨its, r, ⟨⟨cls, dd, data, sl⟩, ho, hc, m, hd⟩, _⟩ := I.tuple ht1
  obtain ⟨its2, r2, ⟨⟨cls2, dd2, data2, sl2⟩, ho2, hc2, m2, hd2⟩, _⟩ := I.tuple ht2
  simp only at hc hd hc2 hd2
  subst hc hd hc2 hd2
  show wpAny (model X.prog X.w) X.A (richCompare .Eq (.ref a) (.ref b)) _ X.xe s
  refine PySem.wpAny_richCompare_same_room (op := .Eq) ⟨_, ho, rfl⟩ ⟨_, ho2, rfl⟩ PySem.F.slot_tuple_eq (GQ.call_here PySem.F.slot_tuple_eq ⟨_, ho, rfl⟩ PySem.F.entry_tuple_eq (PySem.F.args_tuple_eq_2 _ _) ?_) hr.units0
  refine tuple_eqX a b its.toArray its2.toArray m m2 dd dd2 sl sl2 (fun i s' => ∃ H', Inv X pins σ H' s' ∧ eqW X.K f sp (xs.drop (i - 1)) (ys.drop (i - 1)) H' fun r H' => Q (.bl (if false then !r else r)) H') (fun i h1 h2 s' q => ?_) (fun i s' e q => ?_) ho ho2 ⟨H, I, q⟩
  · obtain ⟨H1, I1, q⟩ := q
    refine pairN_run F hb hr r r2 i h1 h2 I1 q (fun s2 H2 I2 q2 => ?_) (fun s2 H2 I2 q2 => ?_)
    · rw [if_pos rfl]; exact ⟨H2, I2, q2⟩
    · rw [if_neg Bool.false_ne_true]
      exact ⟨(fun z => nomatch z), .bl false, H2, I2, rfl, q2⟩
  · obtain ⟨H1, I1, q⟩ := q
    have e1 : its.toArray.size = xs.length + 1 := by rw [List.size_toArray, ← r.length]; rfl
    have e2 : its2.toArray.size = ys.length + 1 := by rw [List.size_toArray, ← r2.length]; rfl
    rw [e1, e2] at e ⊢
    exact ⟨(fun z => nomatch z), .bl _, H1, I1, rfl, eqWN_fin e q⟩
theorem op_neTN (F : FnOk X.prog X.w X.K X.mg X.base CX0 n f fd ps sp) (hb : Binds X.K fd ps []) (hr : Room (n + 1) X.A) (hK : X.K = K := by rfl) : OpR X (compareOp .NotEq) (rTupN true K f sp) := by
  cases hK
  intro pins s σ H x y v u Q I rx ry h
  obtain ⟨a, b, xs, ys, rfl, rfl, ht1, ht2, q⟩ := h
  cases rx
  cases ry
  obtain ⟨its, r, ⟨⟨cls, dd, data, sl⟩, ho, hc, m, hd⟩, _⟩ := I.tuple ht1
  obtain ⟨its2, r2, ⟨⟨cls2, dd2, data2, sl2⟩, ho2, hc2, m2, hd2⟩, _⟩ := I.tuple ht2
  simp only at hc hd hc2 hd2
  subst hc hd hc2 hd2
  show wpAny (model X.prog X.w) X.A (richCompare .NotEq (.ref a) (.ref b)) _ X.xe s
  refine PySem.wpAny_richCompare_same_room (op := .NotEq) ⟨_, ho, rfl⟩ ⟨_, ho2, rfl⟩ PySem.F.slot_tuple_ne (GQ.call_here PySem.F.slot_tuple_ne ⟨_, ho, rfl⟩ PySem.F.entry_tuple_ne (PySem.F.args_tuple_ne_2 _ _) ?_) hr.units0
  refine tuple_neX a b its.toArray its2.toArray m m2 dd dd2 sl sl2 (fun i s' => ∃ H', Inv X pins σ H' s' ∧ eqW X.K f sp (xs.drop (i - 1)) (ys.drop (i - 1)) H' fun r H' => Q (.bl (if true then !r else r)) H') (fun i h1 h2 s' q => ?_) (fun i s' e q => ?_) ho ho2 ⟨H, I, q⟩
  · obtain ⟨H1, I1, q⟩ := q
    refine pairN_run F hb hr r r2 i h1 h2 I1 q (fun s2 H2 I2 q2 => ?_) (fun s2 H2 I2 q2 => ?_)
    · rw [if_pos rfl]; exact ⟨H2, I2, q2⟩
    · rw [if_neg Bool.false_ne_true]
      exact ⟨(fun z => nomatch z), .bl true, H2, I2, rfl, q2⟩
  · obtain ⟨H1, I1, q⟩ := q
    have e1 : its.toArray.size = xs.length + 1 := by rw [List.size_toArray, ← r.length]; rfl
    have e2 : its2.toArray.size = ys.length + 1 := by rw [List.size_toArray, ← r2.length]; rfl
    rw [e1, e2] at e ⊢
    have q3 := eqWN_fin e q
    refine ⟨(fun z => nomatch z), .bl _, H1, I1, rfl, ?_⟩
    exact q3
end
open HD
section
variable {K : PySem.W.Frag} {c : Wd K} {ρ : List S} {n : Nat} {ds : List I} {Q : QI} {f : Addr} {sp : SpD}
/-- (None, x) and (None, y), x == y -/
theorem tupN_ {neg : Bool} {ix iy : I} {C E : Addr} {x y : D} (ex : ix.val = .tup [.non, x]) (ey : iy.val = .tup [.non, y]) (hx : ∃ fs, x = .ins C fs) (hy : ∃ gs, y = .ins E gs)
    (ec : HP.EqCls K C E f) (hs : ∀ (P : I → Nat → Prop) (Z : XD), (P (.v (.bl true)) n) → sp [x, y] n P Z) (h : Q (.v (.bl (!neg))) (frz [iy, ix] ρ) n) : GO c ρ n ds (rTupN neg K f (lift K sp)) ix iy Q := fun σ H vs u v F s k => by
  obtain ⟨fs, rfl⟩ := hx
  obtain ⟨gs, rfl⟩ := hy
  have s1 : St c (frz [iy, ix] ρ) n (.v (.tup [.non, .ins E gs]) :: .v (.tup [.non, .ins C fs]) :: ds) σ H (v :: u :: vs) := by
    have := St.frzs (is := [iy, ix]) (ws := [v, u]) rfl s
    rw [show [iy, ix].map fv = [.v (.tup [.non, .ins E gs]), .v (.tup [.non, .ins C fs])] from by simp only [List.map, fv, ex, ey]] at this
    exact this
  generalize frz [iy, ix] ρ = ρ at s1 h
  obtain ⟨L, B, s2⟩ := s1
  have r1 := StX.peek (ex := []) (ews := []) (d := .tup [.non, .ins E gs]) (w := v) rfl s2
  have r2 := StX.peek (ex := [.v (.tup [.non, .ins E gs])]) (ews := [v]) (d := .tup [.non, .ins C fs]) (w := u) (ds := ds) (vs := vs) rfl s2
  cases r1 with
  | @tup b ws _ tb rb =>
  cases r2 with
  | @tup a us _ ta ra =>
  have hra := ra
  have hrb := rb
  cases ra with
  | cons a0 ra =>
  cases ra with
  | cons a1 ra =>
  cases ra
  cases rb with
  | cons b0 rb =>
  cases rb with
  | cons b1 rb =>
  cases rb
  cases a0
  cases b0
  obtain ⟨p, dx, fv, e1, g1⟩ := RA.insAt a1
  obtain ⟨q, dy, gv, e2, g2⟩ := RA.insAt b1
  subst e1 e2
  have fin : ∀ {H : Hp}, St c ρ n (.v (.tup [.non, .ins E gs]) :: .v (.tup [.non, .ins C fs]) :: ds) σ H (.ref b :: .ref a :: vs) → F (.bl (!neg)) H := fun {H} s => by
    refine k _ _ _ _ _ h ?_
    exact (s.pop.pop).pushS (v := .bl (!neg)) (d := .bl (!neg)) rfl
  have en : (if neg = true then !true else true) = !neg := by cases neg <;> rfl
  refine ⟨a, b, [.ref p], [.ref q], rfl, rfl, ta.sqt, tb.sqt, p, q, C, dx, fv, E, dy, gv, rfl, rfl, g1, g2, ec, fun e uq => ?_, fun ne => ?_⟩
  · show F (.bl (if neg = true then !true else true)) H
    rw [en]
    exact fin ⟨L, B, s2⟩
  · refine ⟨⟨c.g, c.k, c.ns, Mo c (L ++ B), H⟩, n, [.ins C fs, .ins E gs], _, fun _ _ _ => False, ⟨rfl, s2.hat, .inl s2.mg, .inl s2.ml, s2.at, .cons a1 (.cons b1 .nil), fun it m' v H2 q2 k2 h3 r2 => ?_, fun C fs n' x H' z => z.elim⟩, hs (fun it m' => it = .v (.bl true) ∧ m' = n) _ ⟨rfl, rfl⟩⟩
    obtain ⟨e3, e4⟩ := q2
    subst e3 e4
    cases (show R K c.g _ H2 v (.bl true) from r2)
    refine ⟨_, rfl, ?_⟩
    have s3 := s2.kept k2 h3
    rw [if_pos rfl]
    show F (.bl (if neg = true then !true else true)) H2
    rw [en]
    exact fin ⟨L, B, s3⟩
end
end HIn
/-! a law whose own body calls repr, over a head by facts -/
namespace HHk
open PySem PySem.Spec PyProof.Rows L2
/-- a law whose own body calls repr of a list or tuple, over a head by facts -/
theorem walkGE {l : PySem.W.OpenLaw} {n k : Nat} {q : Program} {loose : List Str} {XP : (Str → Option Value) → Heap → Prop} {YP : World → Heap → Prop} {d : DefRec} {x : Str}
    (hn : l.most = some n) (hn2 : n ≤ sizeLine) (hdf : d.params.defaults = []) (hr : Room k callerA)
    (F : ∀ (w : World) (mg : Str → Option Value) (fa : Addr) (h : Heap), YP w h → h.Ns mainGlobals mg → mg d.name = some (.ref fa) →
      ∃ (K : PySem.W.Frag) (fd : FuncData) (sp : Sp), K.In h ∧ (∀ (s : Shared) (u : Value), BindsTo s fd ⟨[u], []⟩ [(x, u)]) ∧
        (∀ (H : Hp) (a : Addr) (ns : List Int), ns.length ≤ n → SqL K H a (ns.map V.int) → sp [.ref a] H (fun v _ => v = .bl true) fun _ _ _ => False) ∧
        ∀ base : Heap, K.In base → base.Ns mainGlobals mg → HV.FnG l.prog w K mg base k fa fd [x] sp) :
    PySem.W.WalkO q loose XP YP l.row.toRowW d [] (fun f vs => PySem.call f vs) := by
  refine Att.attach_call hn hdf fun w s₀ s mg mb fa o pm cd doc a vs ns G Y ho hd hcd hmg ha hi hl hg => ?_
  obtain ⟨K, fd, sp, KX, hb, hsp, hF⟩ := F w mg fa _ Y G.T.g hmg
  have rv := vals_ints hi
  have hl2 : ns.length ≤ sizeLine := Nat.le_trans hl hn2
  have go := fun H h1 h2 h3 h4 => HV.at_call (P := l.prog) (w := w) (K := K) (H := H) KX G.T.g G.T.b G.T.builtins G.T.nolimit hg ha hr hF hb h1 h2 h3 (hsp H a ns hl h4)
  by_cases hk : K.lookup a = none
  · refine go (fun b => if b = a then some (.frz { cls := .type "list", data := .seq vs.toArray } (.lst (ns.map V.int))) else none) (fun b => ?_) (fun b u z => ?_) (fun _ => hk) (.inl (.inr ⟨_, if_pos rfl⟩))
    · by_cases e : b = a
      · exact .inr ⟨e, _, _, if_pos e⟩
      · exact .inl (if_neg e)
    · by_cases e : b = a
      · cases (if_pos e).symm.trans z
        subst e
        exact ⟨ha, by rw [List.length_map]; exact hl2, vs, _, rv, ha⟩
      · cases (if_neg e).symm.trans z
  · obtain ⟨o, e⟩ := Option.ne_none_iff_exists'.mp hk
    have e2 := KX a o e
    rw [ha] at e2
    cases e2
    refine go (fun _ => none) (fun b => .inl rfl) (fun b u z => by cases (show (none : Option HO) = some u from z)) (fun z => absurd rfl z) (.inr ⟨_, vs.toArray, _, e, rfl, rfl, rfl, by rw [List.size_toArray, hi.length]; exact hl2, by simpa using rv⟩)
end HHk
/-! set of a long list of few integers, sorted; repr of an integer where guards are not known -/
namespace HSt
open PySem PySem.Spec PyProof.Rows L2 HX HQ
theorem nodup_le : ∀ (l D : List Int), l.Nodup → (∀ x ∈ l, x ∈ D) → l.length ≤ D.length
  | [], _, _, _ => Nat.zero_le _
  | x :: l, D, hn, hs => by
    obtain ⟨h1, h2⟩ := List.nodup_cons.mp hn
    have hx : x ∈ D := hs x (List.mem_cons_self ..)
    have ih := nodup_le l (D.erase x) h2 fun y hy => (List.mem_erase_of_ne fun e : y = x => h1 (e ▸ hy)).2 (hs y (List.mem_cons_of_mem _ hy))
    have e := List.length_erase_of_mem hx
    have hp : 0 < D.length := List.length_pos_of_mem hx
    rw [List.length_cons]
    omega
theorem setR_le {w : World} {h : Heap} {a : Addr} {ns : List Int} {m : Nat} (R : SetR w h a (fun j => decide (j ∈ ns)) m) (L : List Int) (hL : ∀ j ∈ ns, j ∈ L) : m ≤ L.length := by
  obtain ⟨o, es, ep, t, _, _, _, _, nd, mem, _, _, sz, _⟩ := R
  have hl : (es.toList.map keyOf).length = m := by rw [List.length_map, Array.length_toList]; exact sz
  rw [← hl]
  refine nodup_le _ _ nd fun k hk => hL k ?_
  exact of_decide_eq_true ((mem k).mpr hk)
section
variable {X : Cx} {K : PySem.W.Frag}
def rSetM (K : PySem.W.Frag) (w : World) : List V → Hp → VK → Prop := fun xs H Q => ∃ (l : Addr) (ns : List Int), xs = [.ref l] ∧ SqL K H l (ns.map V.int) ∧ ns.length < 1000 ∧ ∀ p m, H p = none → (∀ L : List Int, (∀ j ∈ ns, j ∈ L) → m ≤ L.length) → Q (.ref p) (upd H p (SetO w p (fun j => decide (j ∈ ns)) m))
theorem call_setM (hc : X.calm = true) (hK : X.K = K := by rfl) : CallR X (.type "set") (rSetM K X.w) := by
  cases hK
  intro pins s σ H xs us Q I r h
  obtain ⟨l, ns, rfl, hq, hl, q⟩ := h
  obtain rfl := Vals.ref1 r
  obtain ⟨its, rv, pl, hz⟩ := I.list hq
  refine setOfInts (I.ok.hd hc) pl.isList (ms := ns) (by simpa using rv.ints) (by unfold scanBound; omega) fun h' tk m hS hm hk => ?_
  exact ⟨.ref _, _, I.laid (t' := tk) hk (Nat.le_refl _) (setO_new hS), rfl, q _ m (I.hok.fresh (Nat.le_refl _)) (setR_le hS)⟩
def rReprI : List V → Hp → VK → Prop := fun xs H Q => ∃ i, xs = [.int i] ∧ i.natAbs.log2 < 1920 ∧ Q (.str (toString i)) H
theorem call_reprI : CallR X (.builtin "repr") rReprI := SkE.call_repr_int
end
section
open HD
variable {K : PySem.W.Frag} {c : Wd K} {ρ : List S} {n : Nat} {ds : List I} {Q : QI}
/-- sorted(set(e)), few integers in it -/
theorem sortSetM_ {w : World} {te : TE} (h : GE c ρ n ds te fun it ρ' n' => ∃ (ns L : List Int), it.val = .lst (ns.map D.int) ∧ ns.length < 1000 ∧ (∀ j ∈ ns, j ∈ L) ∧ L.length < 64 ∧ ∀ ms : List Int, ms.Pairwise (· < ·) → (∀ k, k ∈ ms ↔ k ∈ ns) → Q (.o (.lst (ms.map D.int))) ρ' n') :
    GE c ρ n ds (tCB (rSortedSet w) (tCons (tCB (rSetM K w) (tCons te tNil)) tNil)) Q := fun σ H vs F s k =>
  h σ H vs _ s fun it ρ' n' v H' ⟨ns, L, e, hl, hL, hL2, q⟩ ⟨L', B, s'⟩ => by
    obtain ⟨a, ws, B', e1, e2, s2, ra⟩ := s'.lsp e
    obtain rfl := ra.ints
    subst e1
    refine ⟨a, ns, rfl, SqL.of e2, hl, fun p m hp hm => ?_⟩
    have hm2 := hm L hL
    refine ⟨p, _, m, rfl, upd_same, by omega, fun ms r hs hm2 hln hr => ?_⟩
    have s3 := s2.same (HX.same_new (o := SetO w p (fun j => decide (j ∈ ns)) m) hp)
    exact k _ _ _ _ _ (q ms hs (fun k => (hm2 k).trans ⟨fun z => of_decide_eq_true z, fun z => decide_eq_true z⟩)) ⟨L', _, s3.pushO hr (RA.ofInts ms)⟩
theorem reprI_ {i : Int} (hi : i.natAbs.log2 < 1920) (h : Q (.v (.str (toString i))) ρ n) : GB c ρ n ds rReprI [.v (.int i)] Q := gb1 fun σ H vs x F L B s k => by
  obtain rfl := R.eInt ⟨_, s.val⟩
  exact ⟨i, rfl, hi, k _ _ _ _ _ h ((St.pop ⟨L, B, s⟩).pushS rfl)⟩
end
end HSt
/-! set of a list of equal pairs (truth, integer); sorted of it -/
namespace HTs
open PySem PySem.Spec PyProof.Rows L2 HX
/-- the key of a pair -/
def pk (b : Bool) (i : Int) : NestedKey := .tup [.num (if b = true then 1 else 0), .num i]
theorem pk_depth (b : Bool) (i : Int) : (pk b i).depth = 1 := rfl
section
variable {P : Program} {w : World} {A : Around} {E : Value → Shared → Prop} {s : Shared}
/-- a pair stands at x -/
def Pair (h : Heap) (b : Bool) (i : Int) (x : Addr) : Prop := ∃ o n t, h.get? x = some o ∧ o.cls = .type "tuple" ∧ o.data = .seq #[.bool b, .int i t] n
theorem Pair.key {h : Heap} {b : Bool} {i : Int} {x : Addr} (p : Pair h b i x) : NestedIs h (pk b i) (.ref x) := by
  obtain ⟨o, n, t, h1, h2, h3⟩ := p
  exact .tup h1 h2 h3 (.cons (.bool rfl) (.cons (.int i t) .nil))
theorem Pair.typ {b : Bool} {i : Int} {x : Addr} (p : Pair s.heap b i x) : s.TypeIs (.ref x) "tuple" := by
  obtain ⟨o, n, t, h1, h2, h3⟩ := p
  exact ⟨o, h1, h2⟩
theorem Pair.keep {h h' : Heap} {b : Bool} {i : Int} {x : Addr} (p : Pair h b i x) (k : ∀ c o, h.get? c = some o → h'.get? c = some o) : Pair h' b i x := by
  obtain ⟨o, n, t, h1, h2, h3⟩ := p
  exact ⟨o, n, t, k _ _ h1, h2, h3⟩
theorem Pair.same {h h' : Heap} {b : Bool} {i : Int} {x a : Addr} {o : Obj} {es : Array (Int × Value)} {ep : Nat} {t : SetTable} (p : Pair h b i x) (ho : h.get? a = some o) (hd : o.data = .set es ep t) (hs : Heap.SameBut a h h') : Pair h' b i x := by
  obtain ⟨o', n, t', h1, h2, h3⟩ := p
  have ne : x ≠ a := by
    rintro rfl
    have e : o' = o := Option.some.inj (h1.symm.trans ho)
    rw [e, hd] at h3
    exact nomatch h3
  exact ⟨o', n, t', (hs.2 x ne).trans h1, h2, h3⟩
theorem ofA_bool (n : Nat) (b : Bool) : ofAClassStatement n (.bool b) = pure false := by cases n <;> rfl
theorem ofA_int (n : Nat) (i : Int) (t : Tok) : ofAClassStatement n (.int i t) = pure false := by cases n <;> rfl
theorem hbv_bool (n : Nat) (b : Bool) : hashByValue n (.bool b) = pure true := by cases n <;> rfl
theorem hbv_int (n : Nat) (i : Int) (t : Tok) : hashByValue n (.int i t) = pure true := by cases n <;> rfl
theorem ofA_pair {b : Bool} {i : Int} {x : Addr} {Q : Bool → Shared → Prop} (p : Pair s.heap b i x) (h : Q false s) : wpAny (model P w) A (ofAClassStatement 8 (.ref x)) Q E s := by
  have ht := p.typ
  obtain ⟨o, n, t, h1, h2, h3⟩ := p
  unfold ofAClassStatement
  refine wpAny_bind (wpAny_typeOf ht ?_)
  have e : (("tuple" : String) == "tuple") = true := by decide
  simp only [e, if_true, Bool.not_true, Bool.false_eq_true, if_false]
  try refine wpAny_bind (wpAny_pure ?_)
  try simp only [Bool.not_true, Bool.false_eq_true, if_false]
  show wpAny _ _ (seqItems? (.ref x) >>= _) _ _ s
  refine wpAny_bind (wpAny_seqItems h1 h3 ?_)
  dsimp only
  refine wpAny_bind ?_
  rw [← Array.forIn_toList]
  refine wpAny_forIn_list _ (fun rest r s' => (r.1 = none ∧ s' = s) ∧ ∀ v ∈ rest, v = .bool b ∨ v = .int i t) _ (fun v rest r s' hh => ?_) (fun r s' hh => ?_) _ _ ⟨⟨rfl, rfl⟩, fun v hv => by simpa using hv⟩
  · obtain ⟨⟨e1, rfl⟩, hall⟩ := hh
    have more : ∀ u ∈ rest, u = .bool b ∨ u = .int i t := fun u hu => hall u (List.mem_cons_of_mem _ hu)
    rcases hall v (List.mem_cons_self ..) with rfl | rfl
    · rw [ofA_bool]; refine wpAny_bind (wpAny_pure ?_); simp only [Bool.false_eq_true, if_false]; exact wpAny_pure ⟨⟨rfl, rfl⟩, more⟩
    · rw [ofA_int]; refine wpAny_bind (wpAny_pure ?_); simp only [Bool.false_eq_true, if_false]; exact wpAny_pure ⟨⟨rfl, rfl⟩, more⟩
  · obtain ⟨r1, r2⟩ := r
    obtain ⟨⟨e1, rfl⟩, _⟩ := hh
    simp only at e1
    subst e1
    exact wpAny_pure h
theorem hbv_pair {b : Bool} {i : Int} {x : Addr} {Q : Bool → Shared → Prop} (p : Pair s.heap b i x) (h : Q true s) : wpAny (model P w) A (hashByValue 8 (.ref x)) Q E s := by
  have ht := p.typ
  obtain ⟨o, n, t, h1, h2, h3⟩ := p
  unfold hashByValue
  refine wpAny_bind (wpAny_specialOf ht F.slot_tuple_hash.lookup ?_)
  show wpAny _ _ (seqItems? (.ref x) >>= _) _ _ s
  refine wpAny_bind (wpAny_seqItems h1 h3 ?_)
  refine wpAny_bind ?_
  show wpAny _ _ (forIn _ _ _) _ _ s
  rw [← Array.forIn_toList]
  refine wpAny_forIn_list _ (fun rest r s' => (r.1 = none ∧ s' = s) ∧ ∀ v ∈ rest, v = .bool b ∨ v = .int i t) _ (fun v rest r s' hh => ?_) (fun r s' hh => ?_) _ _ ⟨⟨rfl, rfl⟩, fun v hv => by simpa using hv⟩
  · obtain ⟨⟨e1, rfl⟩, hall⟩ := hh
    have more : ∀ u ∈ rest, u = .bool b ∨ u = .int i t := fun u hu => hall u (List.mem_cons_of_mem _ hu)
    rcases hall v (List.mem_cons_self ..) with rfl | rfl
    · rw [hbv_bool]; refine wpAny_bind (wpAny_pure ?_); simp only [Bool.not_true, Bool.false_eq_true, if_false]; exact wpAny_pure ⟨⟨rfl, rfl⟩, more⟩
    · rw [hbv_int]; refine wpAny_bind (wpAny_pure ?_); simp only [Bool.not_true, Bool.false_eq_true, if_false]; exact wpAny_pure ⟨⟨rfl, rfl⟩, more⟩
  · obtain ⟨r1, r2⟩ := r
    obtain ⟨⟨e1, rfl⟩, _⟩ := hh
    simp only at e1
    subst e1
    exact wpAny_pure h
theorem quiet_pair {b : Bool} {i : Int} {x : Addr} {Q : Bool → Shared → Prop} (p : Pair s.heap b i x) (h : Q true s) : wpAny (model P w) A (eqIsQuiet 8 (.ref x)) Q E s :=
  quiet_key (prog := P) (w := w) _ _ 8 s p.key (by rw [pk_depth]; decide) A E Q h
theorem seen_pair {b : Bool} {i : Int} {x : Addr} {Q : Bool → Shared → Prop} (p : Pair s.heap b i x) {ys : List Value} (hy : ∀ y ∈ ys, ∃ c, y = Value.ref c ∧ Pair s.heap b i c) (h : Q false s) : wpAny (model P w) A (searchCouldBeSeen (.ref x) ys) Q E s := by
  unfold searchCouldBeSeen
  refine wpAny_bind ?_
  refine wpAny_forIn_list _ (fun rest r s' => (r.1 = none ∧ s' = s) ∧ ∀ y ∈ rest, ∃ c, y = Value.ref c ∧ Pair s.heap b i c) _ (fun v rest r s' hh => ?_) (fun r s' hh => ?_) _ _ ⟨⟨rfl, rfl⟩, hy⟩
  · obtain ⟨⟨e1, rfl⟩, hall⟩ := hh
    obtain ⟨c, rfl, pc⟩ := hall v (List.mem_cons_self ..)
    have more : ∀ y ∈ rest, ∃ c, y = Value.ref c ∧ Pair s'.heap b i c := fun u hu => hall u (List.mem_cons_of_mem _ hu)
    dsimp only
    by_cases z : (x == c || (carriedByValue (.ref x) && carriedByValue (.ref c))) = true
    · refine wp_if_pos z ?_
      exact wpAny_pure ⟨⟨rfl, rfl⟩, more⟩
    · refine wp_if_neg z ?_
      refine wpAny_bind (quiet_pair p ?_)
      simp only [Bool.not_true, Bool.false_eq_true, if_false]
      refine wpAny_bind (quiet_pair pc ?_)
      simp only [Bool.not_true, Bool.false_eq_true, if_false]
      refine wpAny_bind (ofA_pair p ?_)
      simp only [Bool.false_eq_true, if_false]
      refine wpAny_bind (ofA_pair pc ?_)
      simp only [Bool.false_eq_true, if_false]
      exact wpAny_pure ⟨⟨rfl, rfl⟩, more⟩
  · obtain ⟨r1, r2⟩ := r
    obtain ⟨⟨e1, rfl⟩, _⟩ := hh
    simp only at e1
    subst e1
    exact wpAny_pure h
/-- a set of at most one pair -/
structure Few (P : Program) (w : World) (h : Heap) (a : Addr) (b : Bool) (i : Int) (hs : Int) (xs : List Addr) (es : Array (Int × Value)) (ep : Nat) (t : SetTable) : Prop where
  ob : ∃ o, h.get? a = some o ∧ o.ExactSet ∧ o.data = .set es ep t
  rows : es.toList = xs.map fun x => (hs, Value.ref x)
  tab : TabOk t (xs.map fun _ => hs)
  pr : ∀ x ∈ xs, Pair h b i x
  plain : t.plain = true
  led : w.params.followText "set-order" = true ∨ t.led = true
  mask : 7 ≤ t.mask
  one : xs.length ≤ 1
variable {a : Addr} {b : Bool} {i hs : Int} {xs : List Addr} {es : Array (Int × Value)} {ep : Nat} {t : SetTable}
theorem Few.sz (R : Few P w s.heap a b i hs xs es ep t) : es.size = xs.length := by
  have h := congrArg List.length R.rows
  rwa [Array.length_toList, List.length_map] at h
theorem Few.fit (R : Few P w s.heap a b i hs xs es ep t) : t.fits es.size = true := by
  have h1 := R.tab.sz
  rw [List.length_map] at h1
  have h2 := R.sz
  have h3 := R.one
  have h4 := R.mask
  unfold SetTable.fits SetTable.fill
  rw [R.tab.dm, Bool.and_eq_true, beq_iff_eq, decide_eq_true_eq]
  refine ⟨by omega, ?_⟩
  show t.place.size + 0 ≤ t.mask
  omega
theorem Few.at_ (R : Few P w s.heap a b i hs xs es ep t) {j : Nat} {x : Addr} (h : xs[j]? = some x) : es[j]? = some (hs, Value.ref x) := by
  rw [← Array.getElem?_toList, R.rows, List.getElem?_map, h]
  rfl
theorem Few.calm (R : Few P w s.heap a b i hs xs es ep t) : ¬ t.gaveWay = true := by
  unfold SetTable.gaveWay
  rw [mask_odd R.tab.mok]
  decide
theorem search_gen (f : Nat) (R : Few P w s.heap a b i hs xs es ep t) {x : Addr} (hx : Pair s.heap b i x) (hu : A.units + 2 < cLine) {Q : SetFound → Shared → Prop} (hin : xs ≠ [] → Q (.there none) s)
    (hout : xs = [] → Q (.free (way t.mask (hs) 0) false) s) : wpAny (model P w) A (setSearchFrom a (.ref x) (hs) true (f + 1) none) Q E s := by
  obtain ⟨o, ho, hex, hd⟩ := R.ob
  have h1 := R.one
  have h7 := R.mask
  obtain ⟨K, hKf, hK, hKb⟩ := R.tab.first (by rw [List.length_map]; omega) (hs)
  rw [setSearchFrom_succ]
  refine wpAny_bind (wpAny_setState_of ho hd R.fit ?_)
  dsimp only
  refine wp_if_neg R.calm ?_
  try refine wpAny_bind (wpAny_pure ?_)
  have spec := go_spec t R.tab.ris R.tab.dm (fun i => (es[i]?.map (·.1)).getD 0) (hs) (10 * SetTable.turns t.mask) K (runAt t.mask (SetTable.bits (hs) % (t.mask + 1)) (SetTable.bits (hs))) rfl hKf hKb hK
  have hashAt : ∀ (j : Nat) y, xs[j]? = some y → (fun i => (es[i]?.map (·.1)).getD 0) j = hs := fun j y hy => by
    show (es[j]?.map (·.1)).getD 0 = _
    rw [R.at_ hy]
    rfl
  rcases spec with ⟨q, j, hq, hj, hh, hno, hpr⟩ | ⟨hno, hpr⟩
  · have hpr2 : t.probe (fun i => (es[i]?.map (·.1)).getD 0) (hs) (Option.getD none (t.probeStart (hs))) = some (.candidate _ j _) := hpr
    rw [hpr2]
    dsimp only
    have hjl : j < xs.length := by
      have z1 : j < t.place.toList.length := (List.getElem?_eq_some_iff.mp hj).1
      have z2 := R.tab.sz
      rw [List.length_map] at z2
      rw [Array.length_toList] at z1
      omega
    have hy : xs[j]? = some xs[j] := List.getElem?_eq_getElem hjl
    have hym := List.getElem_mem hjl
    have ne : xs ≠ [] := fun e => by rw [e] at hjl; cases hjl
    generalize xs[j] = y at hy hym
    have py := R.pr y hym
    have rest : ∀ f jj nx, wpAny (model P w) A (searchRest a (.ref x) (hs) true f es t jj j nx) Q E s := fun f jj nx => by
      unfold searchRest
      rw [R.at_ hy]
      dsimp only
      refine wpAny_bind (wpAny_holding ?_)
      refine (eqAt_key (pk b i) (pk b i) A s (.ref y) (.ref x) py.key hx.key (by rw [pk_depth]; omega)) P w _ _ ?_
      rw [NestedKey.beq_self]
      refine wpAny_bind (wpAny_setState_of ho hd R.fit ?_)
      dsimp only
      refine wp_if_pos (by simp) ?_
      exact wpAny_pure (hin ne)
    by_cases hl : t.led = true
    · refine wp_if_neg (by simp [hl]) ?_
      try refine wpAny_bind (wpAny_pure ?_)
      exact rest _ _ _
    · refine wp_if_pos (by simp [hl]) ?_
      refine wpAny_bind (seen_pair hx (fun z hz => ?_) ?_)
      · obtain ⟨e, he, ee⟩ := List.mem_map.mp hz
        have he1 : e ∈ es ∧ e.1 = hs := by simpa using he
        have he2 : e ∈ es.toList := by simpa using he1.1
        rw [R.rows] at he2
        obtain ⟨c, hc, e2⟩ := List.mem_map.mp he2
        refine ⟨c, ?_, R.pr c hc⟩
        rw [← ee, ← e2]
      · refine wp_if_neg (by decide) ?_
        try refine wpAny_bind (wpAny_pure ?_)
        exact rest _ _ _
  · have hnil : xs = [] := by
      cases e : xs with
      | nil => rfl
      | cons y ys =>
        exfalso
        have hy : xs[0]? = some y := by rw [e]; rfl
        have hsz := R.tab.sz
        rw [List.length_map, e] at hsz
        have hpl : 0 < t.place.toList.length := by rw [Array.length_toList, hsz]; exact Nat.succ_pos _
        have hj := List.getElem?_eq_getElem hpl
        obtain ⟨c, hc, ec⟩ := R.tab.before (i := 0) hK (by rw [e]; rfl) hj
        exact hno c 0 hc (by rw [hj, ← ec]) (hashAt 0 y hy)
    have hK0 : K = 0 := by
      cases K with
      | zero => rfl
      | succ K =>
        exfalso
        have hin0 := hKb 0 (Nat.succ_pos _)
        have hsz := R.tab.sz
        rw [hnil] at hsz
        have : t.place.toList = [] := List.eq_nil_of_length_eq_zero (by rw [Array.length_toList, hsz]; rfl)
        rw [this] at hin0
        cases hin0
    subst hK0
    have hpr2 : t.probe (fun i => (es[i]?.map (·.1)).getD 0) (hs) (Option.getD none (t.probeStart (hs))) = some (.empty (way t.mask (hs) 0) none) := hpr
    rw [hpr2]
    dsimp only
    exact wpAny_pure (hout hnil)
theorem search_few (R : Few P w s.heap a b i hs xs es ep t) {x : Addr} (hx : Pair s.heap b i x) (hu : A.units + 2 < cLine) {Q : SetFound → Shared → Prop} (hin : xs ≠ [] → Q (.there none) s)
    (hout : xs = [] → Q (.free (way t.mask (hs) 0) false) s) : wpAny (model P w) A (setSearch a (.ref x) (hs) true) Q E s := by
  unfold setSearch
  exact search_gen 99999 R hx hu hin hout
theorem Few.keep {h h' : Heap} (R : Few P w h a b i hs xs es ep t) (ha : ∀ o, h.get? a = some o → h'.get? a = some o) (hp : ∀ x ∈ xs, Pair h' b i x) : Few P w h' a b i hs xs es ep t := by
  obtain ⟨⟨o, ho, hex, hd⟩, r2, r3, r4, r5, r6, r7, r8⟩ := R
  exact ⟨⟨o, ha o ho, hex, hd⟩, r2, r3, hp, r5, r6, r7, r8⟩
theorem few_new {h : Heap} (ho : h.get? a = some (HQ.emptySet w)) : Few P w h a b i hs [] #[] 0 (.fresh 0 0 (!w.params.followText "set-order")) := by
  refine ⟨⟨_, ho, ⟨rfl, rfl, rfl⟩, rfl⟩, rfl, ⟨List.Pairwise.nil, rfl, rfl, .inl rfl, fun x hx => ?_, fun k h' j hi => ?_⟩, fun x hx => ?_, rfl, ?_, Nat.le_refl 7, Nat.zero_le 1⟩
  · cases hx
  · simp at hi
  · cases hx
  · show _ ∨ (!w.params.followText "set-order") = true
    cases w.params.followText "set-order"
    · exact .inr rfl
    · exact .inl rfl
theorem add_few (R : Few P w s.heap a b i hs xs es ep t) {x : Addr} (hx : Pair s.heap b i x) (hu : A.units + 2 < cLine) {Q : Bool → Shared → Prop}
    (hQ : ∀ z h' xs' es' ep' t', Heap.SameBut a s.heap h' → Few P w h' a b i hs xs' es' ep' t' → xs' ≠ [] → (∀ y ∈ xs', y ∈ xs ∨ y = x) → Q z { s with heap := h' }) :
    wpAny (model P w) A (setAddHashed a (.ref x) hs) Q E s := by
  obtain ⟨o, ho, hex, hd⟩ := R.ob
  unfold setAddHashed
  refine wpAny_holding ?_
  have key : ∀ f : Nat, wpAny (model P w) A (setAddHashedIn a (.ref x) hs (f + 1)) Q E s := fun f => by
    rw [setAddHashedIn_succ]
    refine wpAny_bind (wpAny_setState_of ho hd R.fit ?_)
    dsimp only
    refine wp_if_neg (by simp [byScan, Value.scannable]) ?_
    try refine wpAny_bind (wpAny_pure ?_)
    refine wpAny_bind (search_few R hx hu (fun ne => ?_) fun hnil => ?_)
    · dsimp only
      exact wpAny_pure (hQ false s.heap xs es ep t (Heap.SameBut.refl a s.heap) R ne fun y hy => .inl hy)
    · subst hnil
      dsimp only
      refine wpAny_bind (wpAny_setState_of ho hd R.fit ?_)
      dsimp only
      have hpl : t.place.toList = [] := List.eq_nil_of_length_eq_zero (by rw [Array.length_toList, R.tab.sz]; rfl)
      obtain ⟨q1, q2, q3, q4, q5, q6, q7, q8, q9⟩ := R.tab.put (h := hs) (K := 0) (by rw [hpl]; exact List.not_mem_nil) (fun k hk => absurd hk (Nat.not_lt_zero k))
      have hm7 := R.mask
      have hpn : (t.put (way t.mask hs 0)).1.plain = true := by rw [q6]; exact R.plain
      generalize hpt : t.put (way t.mask hs 0) = pt at q1 q3 q4 q5 q6 q7 q8 q9 hpn ⊢
      obtain ⟨t1, pp⟩ := pt
      dsimp only at q1 q3 q4 q5 q6 q7 q8 q9 hpn ⊢
      subst q1
      first
        | (refine wpAny_bind ?_; refine wp_if_pos hpn ?_; refine hbv_pair hx ?_)
        | refine wp_if_pos hpn (wpAny_bind (hbv_pair hx ?_))
      simp only [if_true]
      have h0 : SetTable.below t.place (way t.mask hs 0) = 0 := Nat.le_zero.mp q2
      rw [h0] at q3 ⊢
      have hes0 : es.toList = [] := R.rows
      have hes1 : (SetTable.insertAt es 0 (hs, Value.ref x)).toList = [x].map fun x => (hs, Value.ref x) := by
        rw [SetTable.toList_insertAt, hes0]
        rfl
      have hsz1 : (SetTable.insertAt es 0 (hs, Value.ref x)).size = 1 := by rw [← Array.length_toList, hes1]; rfl
      generalize SetTable.insertAt es 0 (hs, Value.ref x) = es1 at hes1 hsz1 ⊢
      refine wpAny_bind (wpAny_storeSet_of ho hd ?_ (by rw [hsz1, sizeLine_eq]; omega))
      have sb : Heap.SameBut a s.heap (s.heap.update a (Obj.putSet es1 t1)) := Heap.SameBut.update ..
      have ho1 := store_at (es' := es1) (t' := t1) ho hd
      generalize s.heap.update a (Obj.putSet es1 t1) = h1 at sb ho1 ⊢
      have hfull : t1.tooFull = false := by
        unfold SetTable.tooFull
        rw [decide_eq_false_iff_not, q9, q4]
        show ¬ (0 + 1) * 5 ≥ t.mask * 3
        omega
      have R1 : Few P w h1 a b i hs [x] es1 (ep + 1) t1 := by
        refine ⟨⟨_, ho1, ⟨hex.1, hex.2.1, hex.2.2⟩, rfl⟩, hes1, q3, fun y hy => ?_, hpn, by rw [q5]; exact R.led, by rw [q4]; exact hm7, Nat.le_refl 1⟩
        rw [List.mem_singleton.mp hy]
        exact hx.same ho hd sb
      first
        | refine wp_if_neg (by simp [hfull]) ?_
        | (refine wpAny_bind ?_; refine wp_if_neg (by simp [hfull]) ?_; refine wpAny_pure ?_)
      refine wpAny_pure (hQ true h1 [x] es1 (ep + 1) t1 sb R1 (by simp) fun y hy => .inr (List.mem_singleton.mp hy))
  exact key 99999
theorem loop_few {I : Addr} {fp wr : List Addr} {G : Array GenState → Array GenState → Prop} {n : Nat} {Pv : Nat → Value → Prop} {St : Nat → Shared → Prop} {R : Result → Shared → Prop}
    (W : WalksS P w A.in1 I fp wr G n Pv St) (S : Addr) (hSf : S ∉ fp) (ks : List Addr) (hval : ∀ j v, Pv j v → ∃ x, ks[j]? = some x ∧ v = .ref x) (h0 : Heap) (hk : ∀ x ∈ ks, Pair h0 b i x) (hS0 : h0.get? S = none)
    (hw0 : ∀ c ∈ wr, h0.get? c = none) (hu : A.in1.units + 2 < cLine) (hhs : hs = (pk b i).hash w) :
    ∀ (k j : Nat) (s : Shared), n - j = k → j ≤ n → St j s → (∀ c o, h0.get? c = some o → s.heap.get? c = some o) → (∃ xs es ep t, Few P w s.heap S b i hs xs es ep t ∧ (∀ x ∈ xs, x ∈ ks) ∧ (0 < j → xs ≠ [])) →
      (∀ s' xs es ep t, Moved (S :: wr) G s s' → Few P w s'.heap S b i hs xs es ep t → (∀ x ∈ xs, x ∈ ks) → (0 < n → xs ≠ []) → (∀ c o, h0.get? c = some o → s'.heap.get? c = some o) → R (.ok (.ret .none)) s') →
      codeAny (model P w) A (.builtin "set.update.loop" ⟨[.ref S, .ref I], []⟩) R s := by
  have hSw : S ∉ wr := fun z => hSf (W.sub _ z)
  have more : ∀ c ∈ wr, c ∈ S :: wr := fun c hc => List.mem_cons_of_mem _ hc
  have keeps : ∀ {s s' : Shared}, Moved wr G s s' → (∀ c o, h0.get? c = some o → s.heap.get? c = some o) → ∀ c o, h0.get? c = some o → s'.heap.get? c = some o := fun m q c o e => m.heap c o (fun z => by rw [hw0 c z] at e; cases e) (q c o e)
  intro k
  induction k with
  | zero =>
    intro j s hj hjn hst hkp ⟨xs, es, ep, t, hS, hsub, hne⟩ hR
    obtain rfl : j = n := by omega
    refine codeAny_builtin F.entry_set_update_loop ?_
    rw [Around.under_plainId F.plain_set_update_loop _]
    show wpAny _ A.in1 (pyNext (.ref I) >>= _) _ _ s
    refine wpAny_bind (W.done s _ _ hst fun s' m => ?_)
    show wpAny _ A.in1 (ret Value.none) _ _ s'
    have kp := keeps m hkp
    refine wpAny_pure (hR s' xs es ep t (m.mono more) (hS.keep (fun o e => m.heap S o hSw e) fun x hx => (hk x (hsub x hx)).keep kp) hsub hne kp)
  | succ k ih =>
    intro j s hj hjn hst hkp ⟨xs, es, ep, t, hS, hsub, hne⟩ hR
    have hlt : j < n := by omega
    refine codeAny_builtin F.entry_set_update_loop ?_
    rw [Around.under_plainId F.plain_set_update_loop _]
    show wpAny _ A.in1 (pyNext (.ref I) >>= _) _ _ s
    refine wpAny_bind (W.item j s _ _ hlt hst fun v s' hP hst' m => ?_)
    obtain ⟨x, hx, rfl⟩ := hval j v hP
    have kp := keeps m hkp
    have hS' := hS.keep (h' := s'.heap) (fun o e => m.heap S o hSw e) fun y hy => (hk y (hsub y hy)).keep kp
    have px : Pair s'.heap b i x := (hk x (List.mem_of_getElem? hx)).keep kp
    show wpAny _ A.in1 (holding [Value.ref x] (setAdd S (.ref x)) >>= _) _ _ s'
    refine wpAny_bind (wpAny_holding ?_)
    unfold setAdd
    refine wpAny_holding (wpAny_bind (pyHash_key (w := w) (pk b i) (.ref x) _ s' _ px.key (by rw [pk_depth]; omega) ?_))
    rw [← hhs]
    refine add_few (s := { s' with toks := s'.toks + (pk b i).draws }) hS' px hu fun z h' xs' es' ep' t' sb hF hn2 hs2 => ?_
    have kp2 : ∀ c o, h0.get? c = some o → h'.get? c = some o := fun c o e => (sb.2 c (fun z => by rw [z, hS0] at e; cases e)).trans (kp c o e)
    have hsub2 : ∀ y ∈ xs', y ∈ ks := fun y hy => (hs2 y hy).elim (hsub y) fun z => by rw [z]; exact List.mem_of_getElem? hx
    refine wpAny_pure ⟨plainId_quiet F.plain_set_update_loop _, ih (j + 1) _ (by omega) hlt (W.frame _ s' _ _ hst' (Nat.le_add_right _ _) fun c hc o e => ?_) kp2 ⟨xs', es', ep', t', hF, hsub2, fun _ => hn2⟩ fun s2 ys es2 ep2 t2 m2 hF2 hsub3 hne3 kp3 => ?_⟩
    · rw [sb.2 c (fun z : c = S => hSf (by rw [← z]; exact hc))]; exact e
    · refine hR s2 ys es2 ep2 t2 (Moved.trans W.gtrans ((m.mono more).then_heap (Nat.le_add_right _ _) fun c o hc e => ?_) m2) hF2 hsub3 hne3 kp3
      rw [sb.2 c (fun z : c = S => hc (by rw [z]; exact List.mem_cons_self))]; exact e
theorem setOfPairs {l : Addr} {zs : Array Value} (ks : List Addr) {Q : Value → Shared → Prop} (calm : A.handled = none) (isl : s.heap.IsList l zs) (hin : zs.toList = ks.map Value.ref) (hk : ∀ x ∈ ks, Pair s.heap b i x) (hu : A.units + 3 + 2 < cLine) (hhs : hs = (pk b i).hash w)
    (k : ∀ (h' : Heap) (tk : Nat) (xs : List Addr) es ep t, Few P w h' s.heap.objs.size b i hs xs es ep t → (∀ x ∈ xs, x ∈ ks) → (0 < ks.length → xs ≠ []) → (∀ c o, s.heap.get? c = some o → h'.get? c = some o) → Q (.ref s.heap.objs.size) { s with heap := h', toks := tk }) :
    wpAny (model P w) A (call (.type "set") [.ref l]) Q E s := by
  have size : zs.size = ks.length := by rw [← Array.length_toList, hin, List.length_map]
  obtain ⟨_, _, hmro⟩ := F.called_set.mro
  have m1 := F.called_set.made
  have m2 := F.called_set.sub
  refine wpAny_call (codeAny_of_tree ?_)
  show wpAny _ _ (callAny (.type "set") _) _ _ _
  refine wpAny_pure ⟨Code.quiet_builtin _ (by decide +kernel), codeAny_builtin F.entry_type_call ?_⟩
  rw [Around.under_plain (weight_type_call_type "set" [.ref l] []) rfl]
  have m3 := F.called_set.notType
  have m4 := F.called_set.canCreate
  have m5 := F.typeCall_set_1 (.ref l)
  repeat (any_goals (first | assumption | wp_step))
  refine codeAny_mono (code_set_led1 (.ref l) (E := E) (Q₁ := fun o t => o = .ref s.heap.objs.size ∧ t = { s with heap := s.heap.push (HQ.emptySet w) }) ⟨rfl, rfl⟩) fun r t hr => ?_
  match r, hr with
  | .error e, hr => exact hr
  | .ok (.ret o), hr =>
    obtain ⟨rfl, rfl⟩ := hr
    generalize eS : s.heap.push (HQ.emptySet w) = G
    have atS : G.get? s.heap.objs.size = some (HQ.emptySet w) := by rw [← eS]; exact Heap.get?_push_size _ rfl
    have old : ∀ b o, s.heap.get? b = some o → G.get? b = some o := fun b o e => by rw [← eS]; exact Heap.get?_push_of_some _ e
    have szG : G.objs.size = s.heap.objs.size + 1 := by rw [← eS]; exact Heap.size_push ..
    have ty : Shared.TypeIs { s with heap := G } (.ref s.heap.objs.size) "set" := ⟨_, atS, rfl⟩
    have n1 := F.called_set.init.lookup
    have n2 := F.called_set.init.bind (.ref s.heap.objs.size)
    repeat (any_goals (first | assumption | wp_step))
    refine codeAny_mono (codeAny_call_builtin (R := wants (fun r t => r = .none ∧ ∃ h' tk xs es ep tt, t = { s with heap := h', toks := tk } ∧ Few P w h' s.heap.objs.size b i hs xs es ep tt ∧ (∀ x ∈ xs, x ∈ ks) ∧ (0 < ks.length → xs ≠ []) ∧ (∀ c o, s.heap.get? c = some o → h'.get? c = some o)) E) F.called_set.init.plain F.entry_set_init (check_set_init_1 ty ?_)) fun r2 t2 hr2 => ?_
    · obtain ⟨⟨oc, od, ot, os⟩, e1, e2, nl, e3⟩ := isl
      simp only at e2 e3
      subst e2; subst e3
      have atL := old _ _ e1
      have u1 := F.sub_list_set
      have u2 := F.sub_list_frozenset
      have u3 : (Value.type "list" == Value.type "dict") = false := by decide
      have isG : G.IsList l zs := ⟨_, atL, rfl, nl, rfl⟩
      unfold Builtin.«set.__init__» noKeywords Builtin.Frozenset.updateFrom
      generalize hp : pyIter = p
      wp_walk
      subst hp
      refine wpAny_pyIter_list isG (wpAny_bind (wpAny_runValue ?_))
      have lt : l < s.heap.objs.size := Heap.lt_size e1
      have calm3 : A.in1.in1.in1.handled = none := by simp [calm]
      have ne : l ≠ G.objs.size := by rw [szG]; exact Nat.ne_of_lt (Nat.lt_succ_of_lt lt)
      have nin : s.heap.objs.size ∉ [G.objs.size, l] := by
        rw [szG]
        simp only [List.mem_cons, List.not_mem_nil, or_false, not_or]
        exact ⟨Nat.ne_of_lt (Nat.lt_succ_self _), Nat.ne_of_gt lt⟩
      have free : ∀ c, s.heap.objs.size ≤ c → s.heap.get? c = none := fun c hc => by
        cases e : s.heap.get? c with
        | none => rfl
        | some o => exact absurd (Nat.lt_of_lt_of_le (Heap.lt_size e) hc) (Nat.lt_irrefl _)
      refine loop_few ((Walks.list calm3 _ l ne zs).toS) s.heap.objs.size nin ks (fun j v hv => ?_) s.heap hk (free _ (Nat.le_refl _)) (fun c hc => free c ?_) hu hhs (zs.size - 0) 0 _ (by omega) (Nat.zero_le _) ⟨⟨_, Heap.get?_push_size _ rfl, rfl, rfl⟩, isG.push _⟩
        (fun c o e => Heap.get?_push_of_some _ (old c o e)) ⟨[], #[], 0, _, few_new (Heap.get?_push_of_some _ atS), (fun x hx => by cases hx), fun z => absurd z (Nat.lt_irrefl 0)⟩ (fun t xs es ep tt m hF hsub hne hkp => ?_)
      · have q : zs.toList[j]? = some v := by rw [Array.getElem?_toList]; exact hv
        rw [hin, List.getElem?_map] at q
        obtain ⟨x, hx, e⟩ := Option.map_eq_some_iff.mp q
        exact ⟨x, hx, e.symm⟩
      · rw [List.mem_singleton.mp hc, szG]
        exact Nat.le_succ _
      · obtain ⟨h', g2, d2, tk, os2⟩ := t
        obtain rfl : g2 = s.gens := m.gens
        obtain rfl : d2 = s.drawn := m.drawn
        obtain rfl : os2 = s.os := m.os
        show wpAny _ _ _ _ _ _
        refine wpAny_pure ?_
        show wpAny _ _ (ret Value.none) _ _ _
        rw [size] at hne
        exact wpAny_pure ⟨rfl, h', tk, xs, es, ep, tt, rfl, hF, hsub, hne, hkp⟩
    · match r2, hr2 with
      | .error e, hr2 => exact hr2
      | .ok (.ret r), hr2 =>
        obtain ⟨rfl, h', tk, xs, es, ep, tt, rfl, a1, a2, a3, a4⟩ := hr2
        repeat (any_goals (first | assumption | wp_step))
        exact k _ _ _ _ _ _ a1 a2 a3 a4
      | .ok .next, hr2 => exact hr2.elim
      | .ok .brk, hr2 => exact hr2.elim
      | .ok .cont, hr2 => exact hr2.elim
  | .ok .next, hr => exact hr.elim
  | .ok .brk, hr => exact hr.elim
  | .ok .cont, hr => exact hr.elim
end
end HTs
/-! sorted of a set of one pair; both as rules on data -/
namespace HTs
open PySem PySem.Spec PyProof.Rows L2 HX
section
variable {P : Program} {w : World} {A : Around} {E : Value → Shared → Prop} {s : Shared} {a : Addr} {b : Bool} {i hs : Int} {xs : List Addr} {es : Array (Int × Value)} {ep : Nat} {t : SetTable}
theorem sorted_one {x1 : Addr} (R : Few P w s.heap a b i hs [x1] es ep t) (hh : A.handled = none) {Q : Value → Shared → Prop}
    (hQ : ∀ s' p (c : Nat), (∀ b o, s.heap.get? b = some o → s'.heap.get? b = some o) → s'.gens = s.gens → s'.os = s.os → s.heap.objs.size ≤ p → s'.heap.get? p = some (seqObj "list" #[.ref x1] c) → Q (.ref p) s') :
    wpAny (model P w) A (call (.builtin "sorted") [.ref a]) Q E s := by
  obtain ⟨o, ho, hex, hd⟩ := R.ob
  have hsz : es.size = 1 := R.sz
  refine Calls.call_function_entry kind_sorted plain_sorted entry_sorted (args_sorted1 _) ?_
  unfold Builtin.«sorted»
  refine wpAny_bind (m := checkCount "sorted" 1 1 _) (wpAny_pure ?_)
  refine wpAny_bind (collect_set (A := A.in1) hh ⟨o, ho, hex.1, hd⟩ R.fit (by rw [hsz]; unfold scanBound; omega) R.tab.ris R.led fun s1 vs k1 hz g1 o1 pm => ?_)
  have hes : es.toList.map (·.2) = [Value.ref x1] := by rw [R.rows]; rfl
  rw [hes] at pm
  obtain rfl : vs = [Value.ref x1] := List.perm_singleton.mp pm
  refine wpAny_bind (wpAny_newList ?_ (by show 1 ≤ sizeLine; rw [sizeLine_eq]; omega))
  have hoL : (s1.heap.push (seqObj "list" [Value.ref x1].toArray 0)).get? s1.heap.objs.size = some (seqObj "list" [Value.ref x1].toArray 0) := Heap.get?_push_size _ rfl
  refine wpAny_bind (wpAny_holding (wpAny_call_entry (s := { s1 with heap := s1.heap.push (seqObj "list" [Value.ref x1].toArray 0) }) slot_list_sort ⟨_, hoL, rfl⟩ entry_list_sort (SK.plain_sort (vs := [Value.ref x1]) (r := fun _ => 0) hoL (show 1 < 64 by decide) (fun h2 => absurd (show 2 ≤ 1 from h2) (by decide)) fun ps out e1 e2 e3 => ⟨_, rfl, ?_⟩) (args_list_sort _)))
  have hps : ps = [(Value.ref x1, Value.ref x1)] := List.perm_singleton.mp e2
  have hout : out = #[Value.ref x1] := by
    apply Array.toList_inj.mp
    rw [e1, hps]
    rfl
  subst hout
  obtain ⟨c, hc⟩ := sortedHeap_at (vs := [Value.ref x1]) (out := #[Value.ref x1]) hoL
  refine wpAny_pure ⟨_, rfl, hQ _ s1.heap.objs.size c (fun c' u e => ?_) g1 o1 hz hc⟩
  have q := k1 c' u e
  have lt := Heap.lt_size q
  show (sortedHeap (s1.heap.push (seqObj "list" [Value.ref x1].toArray 0)) s1.heap.objs.size [Value.ref x1] #[Value.ref x1]).get? c' = some u
  rw [sortedHeap_old (Nat.ne_of_lt lt) (by rw [size_push']; exact Nat.lt_succ_of_lt lt)]
  exact Heap.get?_push_of_some _ q
end
/-- the set at a, without the pair itself -/
structure Few0 (w : World) (h : Heap) (a : Addr) (hs : Int) (x : Addr) : Prop where
  al : ∃ o es ep t, h.get? a = some o ∧ o.ExactSet ∧ o.data = .set es ep t ∧ es.toList = [(hs, Value.ref x)] ∧ TabOk t [hs] ∧ t.plain = true ∧ (w.params.followText "set-order" = true ∨ t.led = true) ∧ 7 ≤ t.mask
def FewO (w : World) (a : Addr) (hs : Int) (x : Addr) : HO := .ext fun h => Few0 w h a hs x
theorem Few.few0 {P : Program} {w : World} {h : Heap} {a x : Addr} {b : Bool} {i hs : Int} {es : Array (Int × Value)} {ep : Nat} {t : SetTable} (R : Few P w h a b i hs [x] es ep t) : Few0 w h a hs x := by
  obtain ⟨⟨o, ho, hex, hd⟩, r2, r3, r4, r5, r6, r7, r8⟩ := R
  exact ⟨o, es, ep, t, ho, hex, hd, r2, r3, r5, r6, r7⟩
theorem Few0.full {P : Program} {w : World} {h : Heap} {a x : Addr} {b : Bool} {i hs : Int} (R : Few0 w h a hs x) (p : Pair h b i x) : ∃ es ep t, Few P w h a b i hs [x] es ep t := by
  obtain ⟨o, es, ep, t, ho, hex, hd, r2, r3, r5, r6, r7⟩ := R.al
  exact ⟨es, ep, t, ⟨o, ho, hex, hd⟩, r2, r3, fun y hy => by rw [List.mem_singleton.mp hy]; exact p, r5, r6, r7, Nat.le_refl 1⟩
theorem fewO_new {P : Program} {w : World} {H : Hp} {h : Heap} {a x : Addr} {hs : Int} (R : Few0 w h a hs x) : ObjOk P w H h a (FewO w a hs x) := by
  obtain ⟨o, es, ep, t, ho, r⟩ := R.al
  refine ⟨⟨o, es, ep, t, ho, r⟩, ⟨o, ho⟩, fun h1 h2 R1 k => ?_⟩
  obtain ⟨o1, es1, ep1, t1, ho1, r1⟩ := R1.al
  exact ⟨o1, es1, ep1, t1, k _ ho1, r1⟩
section
variable {X : Cx} {K : PySem.W.Frag}
theorem Inv.pair {pins : List (Addr × Obj)} {σ : L2.St} {H : Hp} {s : Shared} {x : Addr} {b : Bool} {i : Int} (I : Inv X pins σ H s) (h : SqT X.K H x [.bl b, .int i]) : Pair s.heap b i x := by
  obtain ⟨its, r, ⟨o, ho, hc, n, hd⟩, _⟩ := I.tuple h
  cases r with
  | cons r1 r =>
  cases r with
  | cons r2 r =>
  cases r
  cases r1
  obtain ⟨t, rfl⟩ := r2
  exact ⟨o, n, t, ho, hc, hd⟩
def rSetE (K : PySem.W.Frag) (w : World) : List V → Hp → VK → Prop := fun xs H Q => ∃ (l : Addr) (ks : List Addr) (b : Bool) (i : Int), xs = [.ref l] ∧ SqL K H l (ks.map V.ref) ∧ (∀ x ∈ ks, SqT K H x [.bl b, .int i]) ∧ ks ≠ [] ∧ ∀ p x, H p = none → x ∈ ks → Q (.ref p) (upd H p (FewO w p ((pk b i).hash w) x))
theorem refsV : ∀ {ks : List Addr} {us : List Value}, Vals (ks.map V.ref) us → us = ks.map Value.ref
  | [], _, .nil => rfl
  | k :: ks, _, .cons r t => by cases r; rw [refsV t]; rfl
theorem call_setE (hc : X.calm = true) (hu : X.A.units + 64 < cLine) (hK : X.K = K := by rfl) : CallR X (.type "set") (rSetE K X.w) := by
  cases hK
  intro pins s σ H xs us Q I r h
  obtain ⟨l, ks, b, i, rfl, hq, hk, hne, q⟩ := h
  obtain rfl := Vals.ref1 r
  obtain ⟨its, rv, pl, hz⟩ := I.list hq
  refine setOfPairs (P := X.prog) (w := X.w) (b := b) (i := i) (hs := (pk b i).hash X.w) ks (I.ok.hd hc) pl.isList (by simpa using refsV rv) (fun x hx => Inv.pair I (hk x hx)) (by omega) rfl fun h' tk xs es ep t R hsub hn hkp => ?_
  have hpos : 0 < ks.length := by
    cases ks with
    | nil => exact absurd rfl hne
    | cons _ _ => exact Nat.succ_pos _
  cases xs with
  | nil => exact absurd rfl (hn hpos)
  | cons x rest =>
    have h1 := R.one
    have hr : rest = [] := List.eq_nil_of_length_eq_zero (by rw [List.length_cons] at h1; omega)
    subst hr
    exact ⟨.ref _, _, I.laid (t' := tk) hkp (Nat.le_refl _) (fewO_new R.few0), rfl, q _ x (I.hok.fresh (Nat.le_refl _)) (hsub x (List.mem_cons_self ..))⟩
def rSortE (K : PySem.W.Frag) (w : World) : List V → Hp → VK → Prop := fun vs H Q => ∃ (a x : Addr) (b : Bool) (i hs : Int), vs = [.ref a] ∧ H a = some (FewO w a hs x) ∧ SqT K H x [.bl b, .int i] ∧ ∀ p, H p = none → Q (.ref p) (upd H p (.lst [V.ref x]))
theorem call_sortE (hc : X.calm = true) (hK : X.K = K := by rfl) : CallR X (.builtin "sorted") (rSortE K X.w) := by
  cases hK
  intro pins s σ H vs us Q I r h
  obtain ⟨a, x, b, i, hs, rfl, ha, hx, q⟩ := h
  have R0 : Few0 X.w s.heap a hs x := (I.hok a _ ha).1
  obtain ⟨es, ep, t, R⟩ := R0.full (P := X.prog) (Inv.pair I hx)
  rw [Vals.ref1 r]
  refine sorted_one R (I.ok.hd hc) fun s' p c kp g o hp hg => ?_
  have hn : H p = none := I.hok.fresh hp
  have J : Inv X pins σ (upd H p (.lst [V.ref x])) { s with heap := s'.heap, gens := s'.gens, drawn := s'.drawn, toks := s'.toks } := by
    refine I.call (ch := []) (Un.laid kp hp hn) (I.hok.laid kp hp ⟨?_, [Value.ref x], c, .cons rfl .nil, hg⟩) (by rw [g]; exact I.bare) (fun _ z => nomatch z)
    show 1 ≤ sizeLine
    rw [sizeLine_eq]; omega
  have e : s' = { s with heap := s'.heap, gens := s'.gens, drawn := s'.drawn, toks := s'.toks } := by
    obtain ⟨x1, x2, x3, x4, x5⟩ := s'
    obtain ⟨y1, y2, y3, y4, y5⟩ := s
    cases o
    rfl
  rw [e]
  exact ⟨.ref p, _, J, rfl, q p hn⟩
end
open HD
section
variable {K : PySem.W.Frag} {c : Wd K} {ρ : List S} {n : Nat} {ds : List I} {Q : QI}
theorem refsR {g : Addr} {M : Addr → Prop} {H : Hp} {b : Bool} {i : Int} : ∀ {k : Nat} {ws : List V}, RA K g M H ws (List.replicate k (.tup [.bl b, .int i])) → ∃ ks : List Addr, ws = ks.map V.ref ∧ ks.length = k ∧ ∀ x ∈ ks, SqT K H x [.bl b, .int i] ∧ R K g M H (.ref x) (.tup [.bl b, .int i])
  | 0, _, .nil => ⟨[], rfl, rfl, fun x hx => by cases hx⟩
  | k + 1, _, .cons r t => by
    obtain ⟨ks, rfl, hl, hk⟩ := refsR t
    have r0 := r
    cases r with
    | @tup a us _ ta ra =>
    cases ra with
    | cons a0 ra =>
    cases ra with
    | cons a1 ra =>
    cases ra
    cases a0
    cases a1
    refine ⟨a :: ks, rfl, by rw [List.length_cons, hl], fun x hx => ?_⟩
    rcases List.mem_cons.mp hx with rfl | hx
    · exact ⟨ta.sqt, r0⟩
    · exact hk x hx
/-- sorted(set(e)), e a list of equal pairs -/
theorem sortSetE_ {w : World} {te : TE} (h : GE c ρ n ds te fun it ρ' n' => ∃ (m : Nat) (b : Bool) (i : Int), it.val = .lst (List.replicate (m + 1) (.tup [.bl b, .int i])) ∧ Q (.o (.lst [.tup [.bl b, .int i]])) ρ' n') :
    GE c ρ n ds (tCB (rSortE K w) (tCons (tCB (rSetE K w) (tCons te tNil)) tNil)) Q := fun σ H vs F s k =>
  h σ H vs _ s fun it ρ' n' v H' ⟨m, b, i, e, q⟩ ⟨L', B, s'⟩ => by
    obtain ⟨a, ws, B', e1, e2, s2, ra⟩ := s'.lsp e
    obtain ⟨ks, rfl, hl, hk⟩ := refsR ra
    subst e1
    refine ⟨a, ks, b, i, rfl, SqL.of e2, fun x hx => (hk x hx).1, fun z => (by rw [z] at hl; cases hl), fun p x hp hx => ?_⟩
    have sm : Same H' (upd H' p (FewO w p ((pk b i).hash w) x)) := HX.same_new hp
    have s3 := s2.same sm
    have r3 := (hk x hx).2.mv (mv_same sm)
    have sq : SqT K (upd H' p (FewO w p ((pk b i).hash w) x)) x [.bl b, .int i] := by
      cases r3 with
      | @tup _ us _ ta ra =>
      cases ra with
      | cons a0 ra =>
      cases ra with
      | cons a1 ra =>
      cases ra
      cases a0
      cases a1
      exact ta.sqt
    refine ⟨p, x, b, i, _, rfl, upd_same, sq, fun p2 hp2 => ?_⟩
    exact k _ _ _ _ _ q ⟨L', _, s3.pushO hp2 (.cons r3 .nil)⟩
end
end HTs
/-! the words of a walk: hs one step, hr as many as go, hw the slots behind a wipe -/
local macro_rules | `(tactic| fail "h1") => `(tactic| with_reducible first
  | refine HX.seq_ ?_ | refine HX.asg_ ?_ | refine HX.op_ ?_ | refine HX.varS_ ?_ | refine HX.var0_ ?_ | refine HX.c_ ?_ | refine HX.gn0_ ?_ | refine HX.gnS_ ?_
  | refine HX.cons_ ?_ | refine HX.nil_ ?_ | refine HX.call_ ?_ | refine HX.cb_ ?_ | refine HX.ifS_ ?_ | refine HX.next_ ?_ | refine HX.ret_ ?_ | refine HX.drop_ ?_
  | refine HX.test_ ?_ | refine HX.b_ ?_ | refine HX.not_ ?_ | refine HX.and_ ?_ | refine HX.or_ ?_ | refine HX.notV_ ?_ | refine HX.andV_ ?_ | refine HX.orV_ ?_ | refine HX.if_ ?_
  | refine HX.i0_ ?_ | refine HX.add_int_ ?_ | refine HX.eq_int_ ?_ | refine HX.ne_int_ ?_ | refine HX.eq_bl_ ?_ | refine HX.ne_bl_ ?_ | refine HX.eq_str_ ?_ | refine HX.ne_str_ ?_
  | refine HX.un_ ?_ | refine HX.u_ ?_ | refine HX.tup_ ?_ | refine HX.lst_ ?_ | refine HX.ebl_ ?_ | refine HX.eint_ ?_ | refine HX.e1int_ ?_ | refine HX.e2int_ ?_
  | refine HX.isi_int_int ?_ | refine HX.isi_int_bool ?_ | refine HX.isi_bl_bool ?_ | refine HX.isi_bl_int ?_ | refine HX.int_int_ ?_ | refine HX.int_bl_ ?_
  | refine HX.par_ ?_ | refine HX.par3_ ?_ | refine HX.e2_ ?_ | refine HX.e3_ ?_ | refine HX.gcons_ ?_ | refine HX.gnil_ ?_ | refine HX.gsub_ ?_ | refine HX.enon_ ?_
  | refine HX.sl_ ?_ | refine HX.nopart_ ?_ | refine HX.part_ ?_ | refine HX.itup_ ?_ | refine HX.ilst_ ?_ | refine HX.irng1_ ?_ | refine HX.irng2_ ?_
  | refine HX.abs_ ?_ | refine HX.max2_ ?_ | refine HX.min2_ ?_ | refine HX.isN0_ ?_ | refine HX.isNi_ ?_ | refine HX.isNr_ ?_ | refine HX.isNs_ ?_ | refine HX.notN0_ ?_ | refine HX.notNi_ ?_ | refine HX.notNr_ ?_ | refine HX.notNs_ ?_
  | refine HX.for_ ?_ | refine HX.lc_ ?_ | refine HX.brk_ ?_ | refine HX.cont_ ?_ | refine HX.retN_ ?_ | refine HX.yes_ ?_)
local macro_rules | `(tactic| fail "h2") => `(tactic| first
  | ((with_reducible refine HX.iteT_ ?e ?_); (case e => (with_reducible rfl)))
  | ((with_reducible refine HX.iteF_ ?e ?_); (case e => (with_reducible rfl)))
  | ((with_reducible refine HX.iteT_ ?e ?_); (case e => first | rfl | (refine decide_eq_true ?_; first | assumption | omega)))
  | ((with_reducible refine HX.iteF_ ?e ?_); (case e => first | rfl | (refine decide_eq_false ?_; first | assumption | omega))))
local macro_rules | `(tactic| fail "h3") => `(tactic| first
  | ((with_reducible refine HX.i_ ?c ?_); (case c => first | (show (0 : Int) < _; omega) | (show HX.CMulU _ _; first | (refine HX.CMulU.l ?_; constructor <;> omega) | (refine HX.CMulU.r ?_; constructor <;> omega)) | (show L2.CDiv _ _; constructor <;> omega) | (show L2.CPow _ _; refine ⟨?_, ?_, ?_⟩ <;> omega)))
  | ((with_reducible refine HX.mod_ ?c ?_); (case c => omega))
  | ((with_reducible refine HX.sz_ ?c ?_); (case c => rfl)))
local macro_rules | `(tactic| fail "hu") => `(tactic| fail)
local macro_rules | `(tactic| fail "hs") => `(tactic| first | fail "h1" | fail "h3" | fail "h2" | fail "hu")
local macro_rules | `(tactic| fail "hr") => `(tactic| repeat (fail "hs"))
local macro_rules | `(tactic| fail "hw") => `(tactic| simp only [L2.wipe, List.map_cons, List.map_nil, List.set_cons_zero, List.set_cons_succ])
/-! the words of a walk on data: ds one step, dr as many as go, dn: what was stored is written out -/
local macro_rules | `(tactic| fail "dn") => `(tactic| dsimp only [HD.put, HD.frz, HD.frz1, HD.unset, HD.fin, HD.I.val, HD.fv, List.map, List.set_cons_zero, List.set_cons_succ, List.getElem?_cons_zero, List.getElem?_cons_succ, List.cons_append, List.nil_append])
local macro_rules | `(tactic| fail "gE") => `(tactic| (with_reducible show HD.GE _ _ _ _ _ _); first
  | ((with_reducible refine' HD.varV_ ?e ?_); (case e => rfl))
  | (with_reducible first | refine HD.cint_ ?_ | refine HD.op_ ?_ | refine HD.call_ ?_ | (refine' HD.callX_ ?hX ?_; (case hX => assumption)) | refine HQ.sortSet_ ?_ | refine HQT.sortSetA_ ?_ | refine HD.cb_ ?_ | refine HD.cstr_ ?_ | refine HD.fld_ ?_ | refine HD.tup_ ?_ | refine HD.lst_ ?_ | refine HD.if_ ?_ | refine HD.bm_ ?_ | refine HD.sl_ ?_ | refine HD.cbl_ ?_ | refine HD.cnon_ ?_ | refine HD.un_ ?_ | refine HD.andV_ ?_ | refine HD.orV_ ?_ | refine HD.notV_ ?_ | refine HD.chain_ ?_ | refine HD.ch_ ?_ | refine HD.cty_ ?_ | refine HD.cglo_ ?_ | refine HD.bm0_ ?_ | refine HD.rev_ ?_ | refine HD.cls_ ?_ | refine HD.name_ ?_ | refine HD.make_ ?_ | refine HD.lc_ ?_ | refine HY.meth_ ?_ | refine HY.bits_ ?_ | refine HLn.tupRg_ ?_ | refine HIn.notO_ ?_ | refine HIn.lenSet_ ?_ | refine HIn.methK_ ?_)
  | ((with_reducible refine' HD.lc2_ ?h ?_); (case h => rfl))
  | ((with_reducible refine' HD.varO_ ?e ?_); (case e => rfl))
  | ((with_reducible refine' HD.varM_ ?e ?_); (case e => rfl)))
local macro_rules | `(tactic| fail "gS") => `(tactic| (with_reducible show HD.GS _ _ _ _ _ _); first
  | (with_reducible first | refine HD.seq_ ?_ | refine HD.asgT_ ?_ | refine HD.asg_ ?_ | refine HD.ret_ ?_ | refine HD.ifS_ ?_ | refine HD.next_ ?_ | refine HD.drop_ ?_ | refine HD.retN_ ?_ | refine HD.brk_ ?_ | refine HD.cont_ ?_ | refine HD.par_ ?_ | refine HD.par3_ ?_ | refine HD.setM_ ?_ | refine HD.for_ ?_))
local macro_rules | `(tactic| fail "gA") => `(tactic| (with_reducible show HD.GA _ _ _ _ _ _); (with_reducible first | refine HD.cons_ ?_ | (refine HD.nil_ ?_; try fail "dn") | refine HY.star_ ?_))
local macro_rules | `(tactic| fail "gT") => `(tactic| (with_reducible show HD.GT _ _ _ _ _ _); (with_reducible first | refine HD.test_ ?_ | refine HD.and_ ?_ | refine HD.or_ ?_ | refine HD.not_ ?_ | refine HD.b_ ?_ | refine HD.yes_ ?_ | refine HD.ch2_ ?_))
local macro_rules | `(tactic| fail "gO") => `(tactic| (with_reducible show HD.GO _ _ _ _ _ _ _ _); first
  | (with_reducible first | refine HBt.xorN_ ?_ | refine HBt.orN_ ?_ | refine HBt.andN_ ?_ | refine HBt.and1_ ?_ | refine HBt.shr_ ?_)
  | ((with_reducible refine HBt.shl1_ ?b ?_); (case b => omega))
  | (with_reducible first | refine HD.iInt_ ?_ | refine HD.addI_ ?_ | refine HD.iBl_ ?_ | refine HD.eqI_ ?_ | refine HD.neI_ ?_ | refine HD.eqS_ ?_ | refine HD.neS_ ?_ | refine HD.isN_ ?_ | refine HD.notN_ ?_ | refine HD.eqB_ ?_ | refine HD.neB_ ?_ | refine HD.isB_ ?_ | refine HD.notB_ ?_)
  | ((with_reducible refine' HD.ix_ ?e ?i ?_); (case e => rfl); (case i => rfl))
  | ((with_reducible refine HD.mod_ ?c ?_); (case c => omega))
  | ((with_reducible refine HD.iC_ ?c ?_); (case c => first | (show (0 : Int) < _; omega) | (show (0 : Int) ≤ _; omega) | (show HX.CMulU _ _; first | (refine HX.CMulU.l ?_; constructor <;> omega) | (refine HX.CMulU.r ?_; constructor <;> omega)) | (show L2.CDiv _ _; constructor <;> omega) | (show L2.CPow _ _; refine ⟨?_, ?_, ?_⟩ <;> omega)))
  | fail "uO")
local macro_rules | `(tactic| fail "gB") => `(tactic| (with_reducible show HD.GB _ _ _ _ _ _ _); first
  | ((with_reducible refine' HD.len_ ?e ?_); (case e => rfl); (try fail "dn"))
  | ((with_reducible refine HD.isiInt_ ?e ?_); (case e => first | rfl | assumption); (try fail "dn"))
  | ((with_reducible refine HD.isiBool_ ?e ?_); (case e => first | rfl | assumption); (try fail "dn"))
  | ((with_reducible refine HD.isiStr_ ?e ?_); (case e => first | rfl | assumption); (try fail "dn"))
  | ((with_reducible refine HD.isiList_ ?e ?_); (case e => first | rfl | assumption); (try fail "dn"))
  | ((with_reducible refine HD.isiTup_ ?e ?_); (case e => first | rfl | assumption); (try fail "dn"))
  | (with_reducible first | refine HD.intI_ ?_ | refine HD.intB_ ?_ | refine HD.abs_ ?_ | refine HD.boolB_ ?_ | refine HD.max2_ ?_ | refine HD.min2_ ?_)
  | ((with_reducible refine' HD.isiO_ ?e ?p ?k ?_); (case e => rfl); (case p => fail "fpc"); (case k => fail "fki"))
  | ((with_reducible refine' HD.isiBO_ ?e ?k ?_); (case e => rfl); (case k => fail "fki"))
  | ((with_reducible refine' HD.isiOB_ ?e ?p ?k ?_); (case e => rfl); (case p => fail "fpc"); (case k => fail "fki"))
  | ((with_reducible refine' HY.isiQ_ ?e ?p ?k ?_); (case e => rfl); (case p => fail "fpb"); (case k => fail "fki"))
  | ((with_reducible refine' HS2.isiSq_ ?e ?_); (case e => first | rfl | assumption))
  | ((with_reducible refine HD.tupleOfT_ ?_))
  | ((with_reducible refine' HD.tupleOfL_ ?e ?_); (case e => rfl))
  | ((with_reducible refine' HD.listOf_ ?e ?_); (case e => rfl))
  | fail "uB")
local macro_rules | `(tactic| fail "gG") => `(tactic| (with_reducible show HD.GG _ _ _ _ _ _ _); first
  | ((with_reducible refine HD.gname_ ?c ?i ?_); (case c => rfl); (case i => rfl); (try fail "dn"))
  | ((with_reducible refine HD.gtup_ ?l ?_); (case l => rfl); (try fail "dn"))
  | ((with_reducible refine' HD.gunl_ ?e ?l ?_); (case e => rfl); (case l => rfl); (try fail "dn"))
  | (with_reducible refine HD.gsub_ ?_) | (with_reducible refine HY.gfld_ ?_))
local macro_rules | `(tactic| fail "gW") => `(tactic| (with_reducible show HD.GW _ _ _ _ _ _ _ _); first
  | ((with_reducible refine HD.wname_ ?c ?i ?o ?_); (case c => rfl); (case i => rfl); (case o => rfl); (try fail "dn"))
  | ((with_reducible refine HD.wnameO_ ?c ?i ?o ?_); (case c => rfl); (case i => rfl); (case o => rfl); (try fail "dn"))
  | ((with_reducible refine HD.wtup_ ?l ?_); (case l => rfl); (try fail "dn")))
local macro_rules | `(tactic| fail "gL") => `(tactic| (with_reducible show HD.GL _ _ _ _ _ _ _ _ _); first
  | ((with_reducible refine' HD.slL_ ?e ?_); (case e => rfl)) | (with_reducible refine HD.slT_ ?_) | fail "uL")
local macro_rules | `(tactic| fail "gI") => `(tactic| (with_reducible show HD.GI _ _ _ _ _ _); (with_reducible first | refine HD.ilst_ ?_ | refine HD.itup_ ?_ | refine HD.irng1_ ?_ | refine HD.irng2_ ?_ | refine HW.ien_ ?_ | refine HS2.iseq_ ?_))
local macro_rules | `(tactic| fail "gM") => `(tactic| (with_reducible show HD.GM _ _ _ _ _ _ _ _); first
  | ((with_reducible refine' HD.append_ ?c ?i ?l ?_); (case c => rfl); (case i => rfl); (case l => rfl); (try fail "dn"))
  | fail "uM")
local macro_rules | `(tactic| fail "uM") => `(tactic| fail)
local macro_rules | `(tactic| fail "gR") => `(tactic| with_reducible first
  | refine HD.gnil_ ?_ | refine HD.gcons_ ?_ | refine HD.wnil_ ?_ | refine HD.wcons_ ?_ | refine HD.u_ ?_ | refine HD.nopart_ ?_ | refine HD.part_ ?_
  | refine HD.chC_ ?_ | refine HD.chC2_ ?_ | refine HD.chL_ ?_ | refine HD.chL2_ ?_ | refine HD.forC_ ?_ | refine HD.forN_ ?_ | refine HD.cpC_ ?_ | refine HD.cpN_ ?_)
local macro_rules | `(tactic| fail "gP") => `(tactic| first
  | (with_reducible first | refine HD.exbl_ ?_ | refine HD.exint_ ?_ | refine HD.exv_ ?_ | refine HD.ex2_ ?_ | refine HD.ex3_ ?_ | refine HD.ex1int_ ?_ | refine HD.ex2int_ ?_ | refine HD.extup_ ?_ | refine HD.true_ ?_ | refine HD.exlstD_ ?_)
  | ((with_reducible refine HX.iteT_ ?e ?_); (case e => (with_reducible rfl)))
  | ((with_reducible refine HX.iteF_ ?e ?_); (case e => (with_reducible rfl)))
  | ((with_reducible refine HX.iteT_ ?e ?_); (case e => first | rfl | (refine decide_eq_true ?_; first | assumption | rfl | omega)))
  | ((with_reducible refine HX.iteF_ ?e ?_); (case e => first | rfl | (refine decide_eq_false ?_; first | assumption | omega)))
  | ((with_reducible refine HX.iteF_ ?e ?_); (case e => ((with_reducible refine HU.nd_ ?_); first | assumption | omega)))
  | ((with_reducible refine HX.iteT_ ?e ?_); (case e => ((with_reducible refine HU.nt_ ?_); first | assumption | omega)))
  | ((with_reducible refine HD.leneq_ ?e ?_); (case e => rfl); (try fail "dn"))
  | ((with_reducible refine HD.ble_ ?e ?_); (case e => rfl); (try fail "dn"))
  | ((with_reducible refine HD.cle_ ?e ?_); (case e => rfl); (try fail "dn"))
  | ((with_reducible refine HD.rngB_ ?e ?_); (case e => constructor <;> omega))
  | ((with_reducible refine HD.rngC_ ?e ?_); (case e => refine ⟨?_, ?_, ?_, ?_⟩ <;> omega))
  | ((with_reducible refine' HW.exen_ ?e ?_); (case e => rfl); (try fail "dn"))
  | ((with_reducible refine' HY.exseq_ ?e ?_); (case e => first | rfl | assumption); (try fail "dn"))
  | ((with_reducible refine' HY.exmeth_ ?e ?h ?_); (case e => rfl); (case h => rfl); (try fail "dn"))
  | (with_reducible refine HY.exbits_ ?_)
  | ((with_reducible refine HD.exty_ ?e ?_); (case e => rfl); (try fail "dn"))
  | ((with_reducible refine' HD.exlst_ ?e ?_); (case e => rfl); (try fail "dn"))
  | ((with_reducible refine' HD.exfld_ ?e ?a ?b ?l ?_); (case e => rfl); (case a => fail "fcl"); (case b => fail "fna"); (case l => first | rfl | assumption))
  | ((with_reducible refine' HD.exsetM_ ?e1 ?e2 ?e3 ?h1 ?h2 ?e4 ?_); (case e1 => rfl); (case e2 => rfl); (case e3 => rfl); (case h1 => fail "fcl"); (case h2 => fail "fna"); (case e4 => rfl); (try fail "dn")))
local macro_rules | `(tactic| fail "du") => `(tactic| fail)
local macro_rules | `(tactic| fail "uO") => `(tactic| fail)
local macro_rules | `(tactic| fail "uB") => `(tactic| fail)
local macro_rules | `(tactic| fail "uL") => `(tactic| fail)
local macro_rules | `(tactic| fail "fcl") => `(tactic| fail)
local macro_rules | `(tactic| fail "fna") => `(tactic| fail)
local macro_rules | `(tactic| fail "fpc") => `(tactic| fail)
local macro_rules | `(tactic| fail "fpb") => `(tactic| fail)
local macro_rules | `(tactic| fail "fki") => `(tactic| fail)
local macro_rules | `(tactic| fail "fhc") => `(tactic| fail)
local macro_rules | `(tactic| fail "ds") => `(tactic| first | fail "gE" | fail "gA" | fail "gO" | fail "gS" | fail "gT" | fail "gG" | fail "gB" | fail "gR" | fail "gP" | fail "gW" | fail "gM" | fail "gI" | fail "gL" | fail "du" | fail "dn")
local macro_rules | `(tactic| fail "rg") => `(tactic| (first | rw [HD.rngT1] | rw [HD.rngT2] | rw [HD.rngT3] | rw [HD.rngT4] | rw [HD.rngT5] | rw [HD.rngT6]))
local macro_rules | `(tactic| fail "dr") => `(tactic| repeat (fail "ds"))
namespace D20
open PySem PySem.Spec PyProof.Rows L2 HX
abbrev n_fixed : List Str := ["value", "part"]
theorem sc_fixed : FnScope n_fixed ["value"] (defScope s_fixed) := ⟨rfl, rfl, rfl, by decide +kernel, rfl, by decide +kernel, by decide +kernel⟩
abbrev n_Paper_init : List Str := ["self", "word", "parts"]
theorem sc_Paper_init : FnScope n_Paper_init ["self", "word", "parts"] (defScope s_Paper_init) := ⟨rfl, rfl, rfl, by decide +kernel, rfl, by decide +kernel, by decide +kernel⟩
abbrev n_is_integer : List Str := ["value"]
theorem sc_is_integer : FnScope n_is_integer ["value"] (defScope s_is_integer) := ⟨rfl, rfl, rfl, by decide +kernel, rfl, by decide +kernel, by decide +kernel⟩
abbrev n_is_within : List Str := ["value", "least", "most"]
theorem sc_is_within : FnScope n_is_within ["value", "least", "most"] (defScope s_is_within) := ⟨rfl, rfl, rfl, by decide +kernel, rfl, by decide +kernel, by decide +kernel⟩
abbrev n_Whole_init : List Str := ["self", "number", "__class__"]
theorem sc_Whole_init : NdefX.NScope n_Whole_init ["self", "number"] ["__class__"] (defScope s_Whole_init) := NdefX.nscope_by (by decide +kernel)
abbrev n_NoWhole_init : List Str := ["self", "low", "__class__"]
theorem sc_NoWhole_init : NdefX.NScope n_NoWhole_init ["self", "low"] ["__class__"] (defScope s_NoWhole_init) := NdefX.nscope_by (by decide +kernel)
abbrev n_need_number : List Str := ["value", "part", "least", "most"]
theorem sc_need_number : FnScope n_need_number ["value", "part", "least", "most"] (defScope s_need_number) := ⟨rfl, rfl, rfl, by decide +kernel, rfl, by decide +kernel, by decide +kernel⟩
abbrev n_raised : List Str := ["number", "many", "found", "_"]
theorem sc_raised : FnScope n_raised ["number", "many"] (defScope s_raised) := ⟨rfl, rfl, rfl, by decide +kernel, rfl, by decide +kernel, by decide +kernel⟩
abbrev n_lifted : List Str := ["a", "b", "c", "d", "power", "number"]
theorem sc_lifted : FnScope n_lifted ["a", "b", "c", "d", "power"] (defScope s_lifted) := ⟨rfl, rfl, rfl, by decide +kernel, rfl, by decide +kernel, by decide +kernel⟩
abbrev n_sum_at : List Str := ["a", "b", "c", "d", "power", "first", "second", "third", "last"]
theorem sc_sum_at : FnScope n_sum_at ["a", "b", "c", "d", "power"] (defScope s_sum_at) := ⟨rfl, rfl, rfl, by decide +kernel, rfl, by decide +kernel, by decide +kernel⟩
abbrev n_holds_by : List Str := ["a", "b", "c", "d", "power"]
theorem sc_holds_by : FnScope n_holds_by ["a", "b", "c", "d", "power"] (defScope s_holds_by) := ⟨rfl, rfl, rfl, by decide +kernel, rfl, by decide +kernel, by decide +kernel⟩
abbrev n_ByPower_init : List Str := ["self", "power", "__class__"]
theorem sc_ByPower_init : NdefX.NScope n_ByPower_init ["self", "power"] ["__class__"] (defScope s_ByPower_init) := NdefX.nscope_by (by decide +kernel)
abbrev n_Between_init : List Str := ["self", "low", "__class__"]
theorem sc_Between_init : NdefX.NScope n_Between_init ["self", "low"] ["__class__"] (defScope s_Between_init) := NdefX.nscope_by (by decide +kernel)
abbrev n_need_growing : List Str := ["a", "b", "c", "d"]
theorem sc_need_growing : FnScope n_need_growing ["a", "b", "c", "d"] (defScope s_need_growing) := ⟨rfl, rfl, rfl, by decide +kernel, rfl, by decide +kernel, by decide +kernel⟩
abbrev n_least_step : List Str := ["a", "b", "c", "d", "side", "low", "high", "middle"]
theorem sc_least_step : FnScope n_least_step ["a", "b", "c", "d", "side"] (defScope s_least_step) := ⟨rfl, rfl, rfl, by decide +kernel, rfl, by decide +kernel, by decide +kernel⟩
abbrev n_power_of : List Str := ["a", "b", "c", "d", "side", "steps"]
theorem sc_power_of : FnScope n_power_of ["a", "b", "c", "d"] (defScope s_power_of) := ⟨rfl, rfl, rfl, by decide +kernel, rfl, by decide +kernel, by decide +kernel⟩
abbrev n_Uneven_init : List Str := ["self", "step", "__class__"]
theorem sc_Uneven_init : NdefX.NScope n_Uneven_init ["self", "step"] ["__class__"] (defScope s_Uneven_init) := NdefX.nscope_by (by decide +kernel)
abbrev n_is_between : List Str := ["a", "b", "c", "d", "low"]
theorem sc_is_between : FnScope n_is_between ["a", "b", "c", "d", "low"] (defScope s_is_between) := ⟨rfl, rfl, rfl, by decide +kernel, rfl, by decide +kernel, by decide +kernel⟩
abbrev n_shows_power : List Str := ["a", "b", "c", "d", "value"]
theorem sc_shows_power : FnScope n_shows_power ["a", "b", "c", "d", "value"] (defScope s_shows_power) := ⟨rfl, rfl, rfl, by decide +kernel, rfl, by decide +kernel, by decide +kernel⟩
abbrev n__law_hat : List Str := ["script", "cell"]
theorem sc__law_hat : FnScope n__law_hat ["script"] (defScope s__law_hat) := ⟨rfl, rfl, rfl, by decide +kernel, rfl, by decide +kernel, by decide +kernel⟩
abbrev n__law_lot : List Str := ["hat", "many", "digit", "at", "cell", "great", "mixed"]
theorem sc__law_lot : FnScope n__law_lot ["hat", "many"] (defScope s__law_lot) := ⟨rfl, rfl, rfl, by decide +kernel, rfl, by decide +kernel, by decide +kernel⟩
abbrev n__law_one : List Str := ["hat", "some"]
theorem sc__law_one : FnScope n__law_one ["hat", "some"] (defScope s__law_one) := ⟨rfl, rfl, rfl, by decide +kernel, rfl, by decide +kernel, by decide +kernel⟩
abbrev n__law_any : List Str := ["hat", "a", "b", "c"]
theorem sc__law_any : FnScope n__law_any ["hat"] (defScope s__law_any) := ⟨rfl, rfl, rfl, by decide +kernel, rfl, by decide +kernel, by decide +kernel⟩
abbrev n__law_grows : List Str := ["four", "a", "b", "c", "d"]
theorem sc__law_grows : FnScope n__law_grows ["four"] (defScope s__law_grows) := ⟨rfl, rfl, rfl, by decide +kernel, rfl, by decide +kernel, by decide +kernel⟩
abbrev n__law_planted : List Str := ["hat", "way", "low", "step", "more", "turn", "k", "m", "n", "o", "some", "whole", "least", "steps", "part"]
theorem sc__law_planted : FnScope n__law_planted ["hat"] (defScope s__law_planted) := ⟨rfl, rfl, rfl, by decide +kernel, rfl, by decide +kernel, by decide +kernel⟩
abbrev n__law_four : List Str := ["hat", "some"]
theorem sc__law_four : FnScope n__law_four ["hat"] (defScope s__law_four) := ⟨rfl, rfl, rfl, by decide +kernel, rfl, by decide +kernel, by decide +kernel⟩
abbrev n__law_raised : List Str := ["number", "many", "found", "turn"]
theorem sc__law_raised : FnScope n__law_raised ["number", "many"] (defScope s__law_raised) := ⟨rfl, rfl, rfl, by decide +kernel, rfl, by decide +kernel, by decide +kernel⟩
abbrev n__law_sum : List Str := ["a", "b", "c", "d", "power", "many"]
theorem sc__law_sum : FnScope n__law_sum ["a", "b", "c", "d", "power"] (defScope s__law_sum) := ⟨rfl, rfl, rfl, by decide +kernel, rfl, by decide +kernel, by decide +kernel⟩
abbrev n__law_is_by : List Str := ["a", "b", "c", "d", "power"]
theorem sc__law_is_by : FnScope n__law_is_by ["a", "b", "c", "d", "power"] (defScope s__law_is_by) := ⟨rfl, rfl, rfl, by decide +kernel, rfl, by decide +kernel, by decide +kernel⟩
abbrev n__law_is_whole : List Str := ["value", "least", "most"]
theorem sc__law_is_whole : FnScope n__law_is_whole ["value", "least", "most"] (defScope s__law_is_whole) := ⟨rfl, rfl, rfl, by decide +kernel, rfl, by decide +kernel, by decide +kernel⟩
abbrev n__law_lies_between : List Str := ["a", "b", "c", "d", "low", "near", "far"]
theorem sc__law_lies_between : FnScope n__law_lies_between ["a", "b", "c", "d", "low"] (defScope s__law_lies_between) := ⟨rfl, rfl, rfl, by decide +kernel, rfl, by decide +kernel, by decide +kernel⟩
abbrev n__law_is_power : List Str := ["a", "b", "c", "d", "power"]
theorem sc__law_is_power : FnScope n__law_is_power ["a", "b", "c", "d", "power"] (defScope s__law_is_power) := ⟨rfl, rfl, rfl, by decide +kernel, rfl, by decide +kernel, by decide +kernel⟩
abbrev n__law_values : List Str := ["hat", "at", "some"]
theorem sc__law_values : FnScope n__law_values ["hat", "at"] (defScope s__law_values) := ⟨rfl, rfl, rfl, by decide +kernel, rfl, by decide +kernel, by decide +kernel⟩
abbrev n_law : List Str := ["script", "hat", "lap", "a", "b", "c", "d", "found", "at", "values", "right", "turn", "value", "is_low", "is_power", "odd"]
theorem sc_law : FnScope n_law ["script"] (defScope s_law) := ⟨rfl, rfl, rfl, by decide +kernel, rfl, by decide +kernel, by decide +kernel⟩
structure Tx (P : Program) (K : PySem.W.Frag) (mg : Str → Option Value) where
  f_fixed : Addr
  fd_fixed : FuncData
  F_fixed : Fun K "fixed" "fixed" s_fixed f_fixed fd_fixed
  g_fixed : mg "fixed" = some (.ref f_fixed)
  b_fixed : Binds K fd_fixed ["value"] []
  f_Paper_init : Addr
  f_is_integer : Addr
  fd_is_integer : FuncData
  F_is_integer : Fun K "is_integer" "is_integer" s_is_integer f_is_integer fd_is_integer
  g_is_integer : mg "is_integer" = some (.ref f_is_integer)
  b_is_integer : Binds K fd_is_integer ["value"] []
  f_is_within : Addr
  fd_is_within : FuncData
  F_is_within : Fun K "is_within" "is_within" s_is_within f_is_within fd_is_within
  g_is_within : mg "is_within" = some (.ref f_is_within)
  b_is_within : Binds K fd_is_within ["value", "least", "most"] []
  f_Whole_init : Addr
  f_NoWhole_init : Addr
  f_need_number : Addr
  fd_need_number : FuncData
  F_need_number : Fun K "need_number" "need_number" s_need_number f_need_number fd_need_number
  g_need_number : mg "need_number" = some (.ref f_need_number)
  b_need_number : Binds K fd_need_number ["value", "part", "least", "most"] []
  f_raised : Addr
  fd_raised : FuncData
  F_raised : Fun K "raised" "raised" s_raised f_raised fd_raised
  g_raised : mg "raised" = some (.ref f_raised)
  b_raised : Binds K fd_raised ["number", "many"] []
  f_lifted : Addr
  fd_lifted : FuncData
  F_lifted : Fun K "lifted" "lifted" s_lifted f_lifted fd_lifted
  g_lifted : mg "lifted" = some (.ref f_lifted)
  b_lifted : Binds K fd_lifted ["a", "b", "c", "d", "power"] []
  f_sum_at : Addr
  fd_sum_at : FuncData
  F_sum_at : Fun K "sum_at" "sum_at" s_sum_at f_sum_at fd_sum_at
  g_sum_at : mg "sum_at" = some (.ref f_sum_at)
  b_sum_at : Binds K fd_sum_at ["a", "b", "c", "d", "power"] []
  f_holds_by : Addr
  fd_holds_by : FuncData
  F_holds_by : Fun K "holds_by" "holds_by" s_holds_by f_holds_by fd_holds_by
  g_holds_by : mg "holds_by" = some (.ref f_holds_by)
  b_holds_by : Binds K fd_holds_by ["a", "b", "c", "d", "power"] []
  f_ByPower_init : Addr
  f_Between_init : Addr
  f_need_growing : Addr
  fd_need_growing : FuncData
  F_need_growing : Fun K "need_growing" "need_growing" s_need_growing f_need_growing fd_need_growing
  g_need_growing : mg "need_growing" = some (.ref f_need_growing)
  b_need_growing : Binds K fd_need_growing ["a", "b", "c", "d"] []
  f_least_step : Addr
  fd_least_step : FuncData
  F_least_step : Fun K "least_step" "least_step" s_least_step f_least_step fd_least_step
  g_least_step : mg "least_step" = some (.ref f_least_step)
  b_least_step : Binds K fd_least_step ["a", "b", "c", "d", "side"] []
  f_power_of : Addr
  fd_power_of : FuncData
  F_power_of : Fun K "power_of" "power_of" s_power_of f_power_of fd_power_of
  g_power_of : mg "power_of" = some (.ref f_power_of)
  b_power_of : Binds K fd_power_of ["a", "b", "c", "d"] []
  f_Uneven_init : Addr
  f_is_between : Addr
  fd_is_between : FuncData
  F_is_between : Fun K "is_between" "is_between" s_is_between f_is_between fd_is_between
  g_is_between : mg "is_between" = some (.ref f_is_between)
  b_is_between : Binds K fd_is_between ["a", "b", "c", "d", "low"] []
  f_shows_power : Addr
  fd_shows_power : FuncData
  F_shows_power : Fun K "shows_power" "shows_power" s_shows_power f_shows_power fd_shows_power
  g_shows_power : mg "shows_power" = some (.ref f_shows_power)
  b_shows_power : Binds K fd_shows_power ["a", "b", "c", "d", "value"] []
  f__law_hat : Addr
  fd__law_hat : FuncData
  F__law_hat : Fun K "_law_hat" "_law_hat" s__law_hat f__law_hat fd__law_hat
  g__law_hat : mg "_law_hat" = some (.ref f__law_hat)
  b__law_hat : Binds K fd__law_hat ["script"] []
  f__law_lot : Addr
  fd__law_lot : FuncData
  F__law_lot : Fun K "_law_lot" "_law_lot" s__law_lot f__law_lot fd__law_lot
  g__law_lot : mg "_law_lot" = some (.ref f__law_lot)
  b__law_lot : Binds K fd__law_lot ["hat", "many"] []
  f__law_one : Addr
  fd__law_one : FuncData
  F__law_one : Fun K "_law_one" "_law_one" s__law_one f__law_one fd__law_one
  g__law_one : mg "_law_one" = some (.ref f__law_one)
  b__law_one : Binds K fd__law_one ["hat", "some"] []
  f__law_any : Addr
  fd__law_any : FuncData
  F__law_any : Fun K "_law_any" "_law_any" s__law_any f__law_any fd__law_any
  g__law_any : mg "_law_any" = some (.ref f__law_any)
  b__law_any : Binds K fd__law_any ["hat"] []
  f__law_grows : Addr
  fd__law_grows : FuncData
  F__law_grows : Fun K "_law_grows" "_law_grows" s__law_grows f__law_grows fd__law_grows
  g__law_grows : mg "_law_grows" = some (.ref f__law_grows)
  b__law_grows : Binds K fd__law_grows ["four"] []
  f__law_planted : Addr
  fd__law_planted : FuncData
  F__law_planted : Fun K "_law_planted" "_law_planted" s__law_planted f__law_planted fd__law_planted
  g__law_planted : mg "_law_planted" = some (.ref f__law_planted)
  b__law_planted : Binds K fd__law_planted ["hat"] []
  f__law_four : Addr
  fd__law_four : FuncData
  F__law_four : Fun K "_law_four" "_law_four" s__law_four f__law_four fd__law_four
  g__law_four : mg "_law_four" = some (.ref f__law_four)
  b__law_four : Binds K fd__law_four ["hat"] []
  f__law_raised : Addr
  fd__law_raised : FuncData
  F__law_raised : Fun K "_law_raised" "_law_raised" s__law_raised f__law_raised fd__law_raised
  g__law_raised : mg "_law_raised" = some (.ref f__law_raised)
  b__law_raised : Binds K fd__law_raised ["number", "many"] []
  f__law_sum : Addr
  fd__law_sum : FuncData
  F__law_sum : Fun K "_law_sum" "_law_sum" s__law_sum f__law_sum fd__law_sum
  g__law_sum : mg "_law_sum" = some (.ref f__law_sum)
  b__law_sum : Binds K fd__law_sum ["a", "b", "c", "d", "power"] []
  f__law_is_by : Addr
  fd__law_is_by : FuncData
  F__law_is_by : Fun K "_law_is_by" "_law_is_by" s__law_is_by f__law_is_by fd__law_is_by
  g__law_is_by : mg "_law_is_by" = some (.ref f__law_is_by)
  b__law_is_by : Binds K fd__law_is_by ["a", "b", "c", "d", "power"] []
  f__law_is_whole : Addr
  fd__law_is_whole : FuncData
  F__law_is_whole : Fun K "_law_is_whole" "_law_is_whole" s__law_is_whole f__law_is_whole fd__law_is_whole
  g__law_is_whole : mg "_law_is_whole" = some (.ref f__law_is_whole)
  b__law_is_whole : Binds K fd__law_is_whole ["value", "least", "most"] []
  f__law_lies_between : Addr
  fd__law_lies_between : FuncData
  F__law_lies_between : Fun K "_law_lies_between" "_law_lies_between" s__law_lies_between f__law_lies_between fd__law_lies_between
  g__law_lies_between : mg "_law_lies_between" = some (.ref f__law_lies_between)
  b__law_lies_between : Binds K fd__law_lies_between ["a", "b", "c", "d", "low"] []
  f__law_is_power : Addr
  fd__law_is_power : FuncData
  F__law_is_power : Fun K "_law_is_power" "_law_is_power" s__law_is_power f__law_is_power fd__law_is_power
  g__law_is_power : mg "_law_is_power" = some (.ref f__law_is_power)
  b__law_is_power : Binds K fd__law_is_power ["a", "b", "c", "d", "power"] []
  f__law_values : Addr
  fd__law_values : FuncData
  F__law_values : Fun K "_law_values" "_law_values" s__law_values f__law_values fd__law_values
  g__law_values : mg "_law_values" = some (.ref f__law_values)
  b__law_values : Binds K fd__law_values ["hat", "at"] []
  f_law : Addr
  fd_law : FuncData
  F_law : Fun K "law" "law" s_law f_law fd_law
  g_law : mg "law" = some (.ref f_law)
  b_law : Binds K fd_law ["script"] []
  C_Paper : Addr
  g_Paper : mg "Paper" = some (.ref C_Paper)
  C_Whole : Addr
  g_Whole : mg "Whole" = some (.ref C_Whole)
  C_Denial : Addr
  g_Denial : mg "Denial" = some (.ref C_Denial)
  C_NoWhole : Addr
  g_NoWhole : mg "NoWhole" = some (.ref C_NoWhole)
  C_ByPower : Addr
  g_ByPower : mg "ByPower" = some (.ref C_ByPower)
  C_Between : Addr
  g_Between : mg "Between" = some (.ref C_Between)
  C_Uneven : Addr
  g_Uneven : mg "Uneven" = some (.ref C_Uneven)
  SF_Paper_init : HC.StarFun K "__init__" "Paper.__init__" s_Paper_init f_Paper_init ["self", "word"] "parts"
  cc_Whole_init : Addr
  ca_Whole_init : Addr
  SD_Whole_init : HS.SupDef P K mg ⟨"__init__", "Whole.__init__", defArgs s_Whole_init, defBody s_Whole_init, defScope s_Whole_init, [("__class__", cc_Whole_init)], ca_Whole_init⟩ f_Whole_init C_Whole cc_Whole_init
  cc_NoWhole_init : Addr
  ca_NoWhole_init : Addr
  SD_NoWhole_init : HS.SupDef P K mg ⟨"__init__", "NoWhole.__init__", defArgs s_NoWhole_init, defBody s_NoWhole_init, defScope s_NoWhole_init, [("__class__", cc_NoWhole_init)], ca_NoWhole_init⟩ f_NoWhole_init C_NoWhole cc_NoWhole_init
  cc_ByPower_init : Addr
  ca_ByPower_init : Addr
  SD_ByPower_init : HS.SupDef P K mg ⟨"__init__", "ByPower.__init__", defArgs s_ByPower_init, defBody s_ByPower_init, defScope s_ByPower_init, [("__class__", cc_ByPower_init)], ca_ByPower_init⟩ f_ByPower_init C_ByPower cc_ByPower_init
  cc_Between_init : Addr
  ca_Between_init : Addr
  SD_Between_init : HS.SupDef P K mg ⟨"__init__", "Between.__init__", defArgs s_Between_init, defBody s_Between_init, defScope s_Between_init, [("__class__", cc_Between_init)], ca_Between_init⟩ f_Between_init C_Between cc_Between_init
  cc_Uneven_init : Addr
  ca_Uneven_init : Addr
  SD_Uneven_init : HS.SupDef P K mg ⟨"__init__", "Uneven.__init__", defArgs s_Uneven_init, defBody s_Uneven_init, defScope s_Uneven_init, [("__class__", cc_Uneven_init)], ca_Uneven_init⟩ f_Uneven_init C_Uneven cc_Uneven_init
  mk_Between : Mk K C_Between f_Between_init
  pc_Between : HC.PC K C_Paper C_Between "Between"
  su_Between_Between : HS.SupCls K C_Between C_Between "__init__" f_Paper_init
  na_Between_low : NoAttr K C_Between "low"
  is_Between_ByPower : PySem.W.kitOne K (.ref C_Between) (.ref C_ByPower) = some false
  is_Between_Between : PySem.W.kitOne K (.ref C_Between) (.ref C_Between) = some true
  io_Between_list : PySem.W.kitOne K (.ref C_Between) (.type "list") = some false
  io_Between_tuple : PySem.W.kitOne K (.ref C_Between) (.type "tuple") = some false
  io_Between_int : PySem.W.kitOne K (.ref C_Between) (.type "int") = some false
  io_Between_bool : PySem.W.kitOne K (.ref C_Between) (.type "bool") = some false
  mk_ByPower : Mk K C_ByPower f_ByPower_init
  pc_ByPower : HC.PC K C_Paper C_ByPower "ByPower"
  su_ByPower_ByPower : HS.SupCls K C_ByPower C_ByPower "__init__" f_Paper_init
  na_ByPower_power : NoAttr K C_ByPower "power"
  is_ByPower_ByPower : PySem.W.kitOne K (.ref C_ByPower) (.ref C_ByPower) = some true
  is_ByPower_Between : PySem.W.kitOne K (.ref C_ByPower) (.ref C_Between) = some false
  io_ByPower_list : PySem.W.kitOne K (.ref C_ByPower) (.type "list") = some false
  io_ByPower_tuple : PySem.W.kitOne K (.ref C_ByPower) (.type "tuple") = some false
  io_ByPower_int : PySem.W.kitOne K (.ref C_ByPower) (.type "int") = some false
  io_ByPower_bool : PySem.W.kitOne K (.ref C_ByPower) (.type "bool") = some false
  mk_Uneven : Mk K C_Uneven f_Uneven_init
  pc_Uneven : HC.PC K C_Paper C_Uneven "Uneven"
  su_Uneven_Uneven : HS.SupCls K C_Uneven C_Uneven "__init__" f_Paper_init
  na_Uneven_step : NoAttr K C_Uneven "step"
  is_Uneven_ByPower : PySem.W.kitOne K (.ref C_Uneven) (.ref C_ByPower) = some false
  is_Uneven_Between : PySem.W.kitOne K (.ref C_Uneven) (.ref C_Between) = some false
  io_Uneven_list : PySem.W.kitOne K (.ref C_Uneven) (.type "list") = some false
  io_Uneven_tuple : PySem.W.kitOne K (.ref C_Uneven) (.type "tuple") = some false
  io_Uneven_int : PySem.W.kitOne K (.ref C_Uneven) (.type "int") = some false
  io_Uneven_bool : PySem.W.kitOne K (.ref C_Uneven) (.type "bool") = some false
  mk_Whole : Mk K C_Whole f_Whole_init
  pc_Whole : HC.PC K C_Paper C_Whole "Whole"
  su_Whole_Whole : HS.SupCls K C_Whole C_Whole "__init__" f_Paper_init
  na_Whole_number : NoAttr K C_Whole "number"
  is_Whole_ByPower : PySem.W.kitOne K (.ref C_Whole) (.ref C_ByPower) = some false
  is_Whole_Between : PySem.W.kitOne K (.ref C_Whole) (.ref C_Between) = some false
  io_Whole_list : PySem.W.kitOne K (.ref C_Whole) (.type "list") = some false
  io_Whole_tuple : PySem.W.kitOne K (.ref C_Whole) (.type "tuple") = some false
  io_Whole_int : PySem.W.kitOne K (.ref C_Whole) (.type "int") = some false
  io_Whole_bool : PySem.W.kitOne K (.ref C_Whole) (.type "bool") = some false
  mk_NoWhole : Mk K C_NoWhole f_NoWhole_init
  pc_NoWhole : HC.PC K C_Paper C_NoWhole "NoWhole"
  su_NoWhole_NoWhole : HS.SupCls K C_NoWhole C_NoWhole "__init__" f_Paper_init
  na_NoWhole_low : NoAttr K C_NoWhole "low"
  is_NoWhole_ByPower : PySem.W.kitOne K (.ref C_NoWhole) (.ref C_ByPower) = some false
  is_NoWhole_Between : PySem.W.kitOne K (.ref C_NoWhole) (.ref C_Between) = some false
  io_NoWhole_list : PySem.W.kitOne K (.ref C_NoWhole) (.type "list") = some false
  io_NoWhole_tuple : PySem.W.kitOne K (.ref C_NoWhole) (.type "tuple") = some false
  io_NoWhole_int : PySem.W.kitOne K (.ref C_NoWhole) (.type "int") = some false
  io_NoWhole_bool : PySem.W.kitOne K (.ref C_NoWhole) (.type "bool") = some false
  mk_Paper : Mk K C_Paper f_Paper_init
  pc_Paper : HC.PC K C_Paper C_Paper "Paper"
  is_Paper_ByPower : PySem.W.kitOne K (.ref C_Paper) (.ref C_ByPower) = some false
  is_Paper_Between : PySem.W.kitOne K (.ref C_Paper) (.ref C_Between) = some false
  io_Paper_list : PySem.W.kitOne K (.ref C_Paper) (.type "list") = some false
  io_Paper_tuple : PySem.W.kitOne K (.ref C_Paper) (.type "tuple") = some false
  io_Paper_int : PySem.W.kitOne K (.ref C_Paper) (.type "int") = some false
  io_Paper_bool : PySem.W.kitOne K (.ref C_Paper) (.type "bool") = some false
  mk_Denial : Mk K C_Denial f_Paper_init
  pc_Denial : HC.PC K C_Paper C_Denial "Denial"
  is_Denial_ByPower : PySem.W.kitOne K (.ref C_Denial) (.ref C_ByPower) = some false
  is_Denial_Between : PySem.W.kitOne K (.ref C_Denial) (.ref C_Between) = some false
  io_Denial_list : PySem.W.kitOne K (.ref C_Denial) (.type "list") = some false
  io_Denial_tuple : PySem.W.kitOne K (.ref C_Denial) (.type "tuple") = some false
  io_Denial_int : PySem.W.kitOne K (.ref C_Denial) (.type "int") = some false
  io_Denial_bool : PySem.W.kitOne K (.ref C_Denial) (.type "bool") = some false
  ib_NoneType_ByPower : PySem.W.kitOne K (.type "NoneType") (.ref C_ByPower) = some false
  ib_NoneType_Between : PySem.W.kitOne K (.type "NoneType") (.ref C_Between) = some false
  ib_bool_ByPower : PySem.W.kitOne K (.type "bool") (.ref C_ByPower) = some false
  ib_bool_Between : PySem.W.kitOne K (.type "bool") (.ref C_Between) = some false
  ib_int_ByPower : PySem.W.kitOne K (.type "int") (.ref C_ByPower) = some false
  ib_int_Between : PySem.W.kitOne K (.type "int") (.ref C_Between) = some false
  ib_str_ByPower : PySem.W.kitOne K (.type "str") (.ref C_ByPower) = some false
  ib_str_Between : PySem.W.kitOne K (.type "str") (.ref C_Between) = some false
  ib_list_ByPower : PySem.W.kitOne K (.type "list") (.ref C_ByPower) = some false
  ib_list_Between : PySem.W.kitOne K (.type "list") (.ref C_Between) = some false
  ib_tuple_ByPower : PySem.W.kitOne K (.type "tuple") (.ref C_ByPower) = some false
  ib_tuple_Between : PySem.W.kitOne K (.type "tuple") (.ref C_Between) = some false
  kb_shows_power_value_a_b_c_d : KBinds K fd_shows_power ["a", "b", "c", "d", "value"] ["value", "a", "b", "c", "d"] (HB.perm [1, 2, 3, 4, 0] .none) (HB.perm [1, 2, 3, 4, 0] .non)
  z_abs : mg "abs" = none
  z_bool : mg "bool" = none
  z_int : mg "int" = none
  z_isinstance : mg "isinstance" = none
  z_len : mg "len" = none
  z_list : mg "list" = none
  z_range : mg "range" = none
  z_set : mg "set" = none
  z_sorted : mg "sorted" = none
  z_str : mg "str" = none
  z_tuple : mg "tuple" = none
  t_MOST_TOLD : Tok
  c_MOST_TOLD : mg "MOST_TOLD" = some (.int 99 t_MOST_TOLD)
  t_MOST_POWER : Tok
  c_MOST_POWER : mg "MOST_POWER" = some (.int 80 t_MOST_POWER)
namespace Tx
variable {P : Program} {K : PySem.W.Frag} {mg : Str → Option Value}
theorem r_MOST_TOLD (T : Tx P K mg) : RelV (.int 99) (.int 99 T.t_MOST_TOLD) := ⟨_, rfl⟩
theorem r_MOST_POWER (T : Tx P K mg) : RelV (.int 80) (.int 80 T.t_MOST_POWER) := ⟨_, rfl⟩
end Tx
end D20
namespace D20
open PySem PySem.Spec PyProof.Rows L2 HX
section
variable {P : Program} {w : World} {K : PySem.W.Frag} {mg : Str → Option Value} {base : Heap}
local macro_rules | `(tactic| fail "fcl") => `(tactic| with_reducible first | exact (show Tx _ _ _ by assumption).pc_Between.cl | exact (show Tx _ _ _ by assumption).pc_ByPower.cl | exact (show Tx _ _ _ by assumption).pc_Uneven.cl | exact (show Tx _ _ _ by assumption).pc_Whole.cl | exact (show Tx _ _ _ by assumption).pc_NoWhole.cl | exact (show Tx _ _ _ by assumption).pc_Paper.cl | exact (show Tx _ _ _ by assumption).pc_Denial.cl)
local macro_rules | `(tactic| fail "fpc") => `(tactic| with_reducible first | exact (show Tx _ _ _ by assumption).pc_Between | exact (show Tx _ _ _ by assumption).pc_ByPower | exact (show Tx _ _ _ by assumption).pc_Uneven | exact (show Tx _ _ _ by assumption).pc_Whole | exact (show Tx _ _ _ by assumption).pc_NoWhole | exact (show Tx _ _ _ by assumption).pc_Paper | exact (show Tx _ _ _ by assumption).pc_Denial)
local macro_rules | `(tactic| fail "fhc") => `(tactic| with_reducible first | exact (show Tx _ _ _ by assumption).pc_Between.hc | exact (show Tx _ _ _ by assumption).pc_ByPower.hc | exact (show Tx _ _ _ by assumption).pc_Uneven.hc | exact (show Tx _ _ _ by assumption).pc_Whole.hc | exact (show Tx _ _ _ by assumption).pc_NoWhole.hc | exact (show Tx _ _ _ by assumption).pc_Paper.hc | exact (show Tx _ _ _ by assumption).pc_Denial.hc)
local macro_rules | `(tactic| fail "fna") => `(tactic| with_reducible first | exact (show Tx _ _ _ by assumption).pc_Between.word | exact (show Tx _ _ _ by assumption).pc_Between.parts | exact (show Tx _ _ _ by assumption).na_Between_low | exact (show Tx _ _ _ by assumption).pc_ByPower.word | exact (show Tx _ _ _ by assumption).pc_ByPower.parts | exact (show Tx _ _ _ by assumption).na_ByPower_power | exact (show Tx _ _ _ by assumption).pc_Uneven.word | exact (show Tx _ _ _ by assumption).pc_Uneven.parts | exact (show Tx _ _ _ by assumption).na_Uneven_step | exact (show Tx _ _ _ by assumption).pc_Whole.word | exact (show Tx _ _ _ by assumption).pc_Whole.parts | exact (show Tx _ _ _ by assumption).na_Whole_number | exact (show Tx _ _ _ by assumption).pc_NoWhole.word | exact (show Tx _ _ _ by assumption).pc_NoWhole.parts | exact (show Tx _ _ _ by assumption).na_NoWhole_low | exact (show Tx _ _ _ by assumption).pc_Paper.word | exact (show Tx _ _ _ by assumption).pc_Paper.parts | exact (show Tx _ _ _ by assumption).pc_Denial.word | exact (show Tx _ _ _ by assumption).pc_Denial.parts)
local macro_rules | `(tactic| fail "fki") => `(tactic| with_reducible first | exact (show Tx _ _ _ by assumption).is_Between_ByPower | exact (show Tx _ _ _ by assumption).is_Between_Between | exact (show Tx _ _ _ by assumption).is_ByPower_ByPower | exact (show Tx _ _ _ by assumption).is_ByPower_Between | exact (show Tx _ _ _ by assumption).is_Uneven_ByPower | exact (show Tx _ _ _ by assumption).is_Uneven_Between | exact (show Tx _ _ _ by assumption).is_Whole_ByPower | exact (show Tx _ _ _ by assumption).is_Whole_Between | exact (show Tx _ _ _ by assumption).is_NoWhole_ByPower | exact (show Tx _ _ _ by assumption).is_NoWhole_Between | exact (show Tx _ _ _ by assumption).is_Paper_ByPower | exact (show Tx _ _ _ by assumption).is_Paper_Between | exact (show Tx _ _ _ by assumption).is_Denial_ByPower | exact (show Tx _ _ _ by assumption).is_Denial_Between | exact (show Tx _ _ _ by assumption).ib_NoneType_ByPower | exact (show Tx _ _ _ by assumption).ib_NoneType_Between | exact (show Tx _ _ _ by assumption).ib_bool_ByPower | exact (show Tx _ _ _ by assumption).ib_bool_Between | exact (show Tx _ _ _ by assumption).ib_int_ByPower | exact (show Tx _ _ _ by assumption).ib_int_Between | exact (show Tx _ _ _ by assumption).ib_str_ByPower | exact (show Tx _ _ _ by assumption).ib_str_Between | exact (show Tx _ _ _ by assumption).ib_list_ByPower | exact (show Tx _ _ _ by assumption).ib_list_Between | exact (show Tx _ _ _ by assumption).ib_tuple_ByPower | exact (show Tx _ _ _ by assumption).ib_tuple_Between | exact (show Tx _ _ _ by assumption).io_Between_list | exact (show Tx _ _ _ by assumption).io_Between_tuple | exact (show Tx _ _ _ by assumption).io_Between_int | exact (show Tx _ _ _ by assumption).io_Between_bool | exact (show Tx _ _ _ by assumption).io_ByPower_list | exact (show Tx _ _ _ by assumption).io_ByPower_tuple | exact (show Tx _ _ _ by assumption).io_ByPower_int | exact (show Tx _ _ _ by assumption).io_ByPower_bool | exact (show Tx _ _ _ by assumption).io_Uneven_list | exact (show Tx _ _ _ by assumption).io_Uneven_tuple | exact (show Tx _ _ _ by assumption).io_Uneven_int | exact (show Tx _ _ _ by assumption).io_Uneven_bool | exact (show Tx _ _ _ by assumption).io_Whole_list | exact (show Tx _ _ _ by assumption).io_Whole_tuple | exact (show Tx _ _ _ by assumption).io_Whole_int | exact (show Tx _ _ _ by assumption).io_Whole_bool | exact (show Tx _ _ _ by assumption).io_NoWhole_list | exact (show Tx _ _ _ by assumption).io_NoWhole_tuple | exact (show Tx _ _ _ by assumption).io_NoWhole_int | exact (show Tx _ _ _ by assumption).io_NoWhole_bool | exact (show Tx _ _ _ by assumption).io_Paper_list | exact (show Tx _ _ _ by assumption).io_Paper_tuple | exact (show Tx _ _ _ by assumption).io_Paper_int | exact (show Tx _ _ _ by assumption).io_Paper_bool | exact (show Tx _ _ _ by assumption).io_Denial_list | exact (show Tx _ _ _ by assumption).io_Denial_tuple | exact (show Tx _ _ _ by assumption).io_Denial_int | exact (show Tx _ _ _ by assumption).io_Denial_bool)
theorem fixed_step (T : Tx P K mg) (m : Nat) (ih : FnOk P w K mg base CX0 m T.f_fixed T.fd_fixed ["value"] (HD.lift K (HD.spd_fixedB m))) : FnOk P w K mg base CX0 (m + 1) T.f_fixed T.fd_fixed ["value"] (HD.lift K (HD.spd_fixed m)) := by
  refine T.F_fixed.ok sc_fixed (fun vs H Q E h => ?_) (fun cdv A outer s H vs Q E hr h => ?_)
  · obtain ⟨cx, nn, args, Qd, Ed, hc, d, rfl, _⟩ := h; exact hc.ra.len
  obtain ⟨cx, nn, args, Qd, Ed, hc, d, rfl, ok, q⟩ := h
  refine ⟨_, (pss_cons (ps_if (pt_not (pt_val (pe_callB (HD.call_isiTU (K := K)) (by rfl) T.z_isinstance (by decide +kernel) (pa_cons (pv 0) (pa_cons (pe_tup (pa_cons (pe_bltn (v := .ty "list") (by rfl) T.z_list (by decide +kernel) rfl) (pa_cons (pe_bltn (v := .ty "tuple") (by rfl) T.z_tuple (by decide +kernel) rfl) pa_nil))) pa_nil))))) (pss_one (ps_ret (pv 0))) pss_nil)
      (pss_one (ps_ret (pe_callTy (call_tupleK (K := K)) (by rfl) T.z_tuple (by decide +kernel) (pa_cons (pe_lc (own := [("part", 1)]) (g := gName 1) (tt := tYes) (by rfl) sc_fixed.nd (HC.pi_seqK (K := K) (pv 0)) (blkOk_by (own := [("part", 1)]) (N := n_fixed) (sc := defScope s_fixed) (by decide +kernel)) (fun _ _ _ _ _ => (pg_name (i := 1) sc_fixed.nd rfl (by first | exact .inl rfl | exact .inr rfl))) (fun _ _ _ _ _ => pts_nil) (fun _ _ _ _ _ => (pe_call ih hr (by rfl) T.g_fixed T.F_fixed.kp T.b_fixed .nil pass0 (pa_cons (pv 1) pa_nil)))) pa_nil))))), HD.enter (ρ := [HD.S.v d, HD.S.un]) hc rfl ?_⟩
  clear hc
  obtain ⟨t, et⟩ := HD.okF_tn ok
  fail "dr"
  refine HD.isiTB_ (it := .v d) et rfl (HD.sq_kit et) ?_
  fail "dr"
  cases d with
  | lst xs =>
    cases m with
    | zero => simp [HD.okF] at ok
    | succ m =>
    simp only [HD.okF, Bool.and_eq_true, List.all_eq_true] at ok
    have hl := Nat.le_of_ble_eq_true ok.1
    fail "dr"
    refine HD.iseqL_ ?_
    fail "dr"
    refine HD.CpD.mapD HD.D.fix hl (fun x hx ys => ?_) ?_
    · fail "dr"
      exact ⟨x, rfl, ok.2 x hx, rfl, rfl, rfl⟩
    · fail "dr"
      rw [HD.D.fix, HD.D.fixs_map] at q
      exact q
  | tup xs =>
    cases m with
    | zero => simp [HD.okF] at ok
    | succ m =>
    simp only [HD.okF, Bool.and_eq_true, List.all_eq_true] at ok
    have hl := Nat.le_of_ble_eq_true ok.1
    fail "dr"
    refine HD.iseqT_ ?_
    fail "dr"
    refine HD.CpD.mapD HD.D.fix hl (fun x hx ys => ?_) ?_
    · fail "dr"
      exact ⟨x, rfl, ok.2 x hx, rfl, rfl, rfl⟩
    · fail "dr"
      rw [HD.D.fix, HD.D.fixs_map] at q
      exact q
  | _ =>
    fail "dr"
    exact q
theorem ok_fixedN (T : Tx P K mg) : ∀ m, FnOk P w K mg base CX0 (m + 1) T.f_fixed T.fd_fixed ["value"] (HD.lift K (HD.spd_fixed m))
  | 0 => fixed_step T 0 (by rw [HD.lift_false]; exact HC.FnOk.nil)
  | m + 1 => fixed_step T (m + 1) (ok_fixedN T m)
theorem ok_fixed (T : Tx P K mg) : FnOk P w K mg base CX0 3 T.f_fixed T.fd_fixed ["value"] (HD.lift K (HD.spd_fixed 2)) := ok_fixedN T 2
theorem okB_Paper_init (T : Tx P K mg) {C : Addr} (hC : Cls K C) (nw : NoAttr K C "word") (np : NoAttr K C "parts") : FnR P w K mg base CX0 4 T.f_Paper_init (HC.starS ["self", "word"] (HD.liftI K C (HD.spi_PaperB 2))) := by
  refine HC.star_ok T.SF_Paper_init sc_Paper_init (fun cdv A outer s H vs Q E hr h => ?_)
  obtain ⟨cx, nn, x, dx, ws, args, Qd, Ed, rfl, hc, w', xs, rfl, ok, q⟩ := h
  have hwl : ws.length = 2 := hc.ra.len
  match ws, hwl with
  | [w1, w2], _ =>
  refine ⟨_, (pss_cons (HC.ps_fldK (K := K) (pv 0) (pv 1))
      (pss_one (HC.ps_fldK (K := K) (pv 0) (pe_call (ok_fixed T) (hr.mono (by decide)) (by rfl) T.g_fixed T.F_fixed.kp T.b_fixed .nil pass0 (pa_cons (pv 2) pa_nil))))), ?_⟩
  refine HX.start_ (σ := [some (V.ref x), some w1, some w2]) rfl ?_
  refine HD.enterI hc (m := 0) (es := [.str w', .tup xs]) rfl (fun L s => ?_)
  refine (?_ : HD.GS cx _ nn [] _ ⟨fun ρ m => ∃ fs, ρ[0]? = some (.me x (.ins C fs)) ∧ Qd fs m, fun _ _ => False, fun _ _ => False, fun _ _ => False⟩) _ _ _ _ ⟨_, _, s⟩ ⟨fun ρ n σ H ⟨fs, h0, q⟩ s => HD.leaveI hc s h0 q, fun _ _ _ _ q => q.elim, fun _ _ _ _ q => q.elim, fun _ _ _ _ q => q.elim⟩
  clear s hc
  dsimp only [List.map, List.replicate, List.cons_append, List.nil_append]
  fail "dr"
  refine ⟨_, _, _, _, _, rfl, rfl, rfl, hC, nw, rfl, ?_⟩
  fail "dr"
  refine ⟨.tup xs, rfl, ok, ?_⟩
  fail "dr"
  refine ⟨_, _, _, _, _, rfl, rfl, rfl, hC, np, rfl, ?_⟩
  refine ⟨_, rfl, ?_⟩
  exact q
theorem okC_Paper_init (T : Tx P K mg) {C CP : Addr} {nm : Str} (pc : HC.PC K CP C nm) : FnR P w K mg base CX0 4 T.f_Paper_init (HD.liftI K C (HD.spi_Paper 2)) := HD.fnr_imp (okB_Paper_init T pc.cl pc.word pc.parts) HD.starI
def spi_ByPower_init (ds : List HD.D) (n : Nat) (Q : List (Str × HD.D) → Nat → Prop) (_ : HD.XD) : Prop := ∃ d0, ds = [d0] ∧ HD.okF 1 d0 = true ∧ Q [("word", .str "bypower"), ("parts", .tup [d0.fix]), ("power", d0.fix)] n
theorem okK_ByPower_init (T : Tx P K mg) (kw : Bool) : HS.FnB P w K mg base CX0 5 T.f_ByPower_init ["self", "power"] kw (HD.liftI K T.C_ByPower spi_ByPower_init) := by
  refine HS.fn_superB kw T.SD_ByPower_init rfl sc_ByPower_init rfl rfl rfl rfl rfl (fun _ => rfl) (fun _ => rfl) (fun _ => rfl) (fun _ => rfl) (fun _ => rfl) (fun vs H Q E h => ?_) (fun A outer s H vs Q E hr h => ?_)
  · obtain ⟨cx, nn, x, dx, ws, args, Qd, Ed, rfl, hc, hsp⟩ := h
    obtain ⟨d0, rfl, ok0, q⟩ := hsp
    exact congrArg (· + 1) hc.ra.len
  obtain ⟨cx, nn, x, dx, ws, args, Qd, Ed, rfl, hc, hsp⟩ := h
  obtain ⟨d0, rfl, ok0, q⟩ := hsp
  have hwl : ws.length = 1 := hc.ra.len
  match ws, hwl with
  | [w0], _ =>
  refine ⟨x, T.C_ByPower, dx, T.f_Paper_init, [], _, _, _, HD.liftI K T.C_ByPower (HD.spi_Paper 2), rfl, hc.hx, T.su_ByPower_ByPower, (okC_Paper_init T T.pc_ByPower).mono (by decide), (pa_cons pe_str (pa_cons (pv 1) pa_nil)), (pss_one (HC.ps_fldK (K := K) (pv 0) (pe_ix (ix_K (K := K)) (HC.pe_fldK (K := K) (pv 0)) pe_int (fun _ _ => rfl)))), ?_⟩
  generalize hσ : NdefX.startF n_ByPower_init [V.ref x, w0] [none] = σ0
  obtain ⟨L, s⟩ := HD.enterJ (σ := σ0) hc (m := 1) (es := [d0]) (by rw [← hσ]; rfl)
  refine HD.super_ (ds := []) rfl (D := ⟨fun ρ m => ∃ fs, ρ[0]? = some (.me x (.ins T.C_ByPower fs)) ∧ Qd fs m, fun _ _ => False, fun _ _ => False, fun _ _ => False⟩) ?_ ⟨_, _, s⟩ ⟨fun ρ n σ H ⟨fs, h0, q⟩ s => HD.leaveI hc s h0 q, fun _ _ _ _ q => q.elim, fun _ _ _ _ q => q.elim, fun _ _ _ _ q => q.elim⟩
  clear s hc
  dsimp only [List.map, List.replicate, List.cons_append, List.nil_append]
  fail "dr"
  refine ⟨rfl, "bypower", [d0], rfl, ?_, ?_⟩
  · simp only [HD.okF, List.length_cons, List.length_nil, List.all_cons, List.all_nil, Bool.and_true, ok0]; rfl
  dsimp only [List.set_cons_zero]
  fail "dr"
  refine ⟨_, rfl, ?_⟩
  exact q
theorem ok_ByPower_init (T : Tx P K mg) : FnR P w K mg base CX0 5 T.f_ByPower_init (HD.liftI K T.C_ByPower spi_ByPower_init) := fun A outer s H us vs Q E => okK_ByPower_init T false A outer s H us vs Q E
theorem use_ByPower_init {d0 : HD.D} {n : Nat} {Q : List (Str × HD.D) → Nat → Prop} {E : HD.XD} (h0 : HD.okF 1 d0 = true) (q : Q [("word", .str "bypower"), ("parts", .tup [d0.fix]), ("power", d0.fix)] n) : spi_ByPower_init [d0] n Q E := ⟨d0, rfl, h0, q⟩

def spi_Between_init (ds : List HD.D) (n : Nat) (Q : List (Str × HD.D) → Nat → Prop) (_ : HD.XD) : Prop := ∃ d0, ds = [d0] ∧ HD.okF 1 d0 = true ∧ Q [("word", .str "between"), ("parts", .tup [d0.fix]), ("low", d0.fix)] n
theorem okK_Between_init (T : Tx P K mg) (kw : Bool) : HS.FnB P w K mg base CX0 5 T.f_Between_init ["self", "low"] kw (HD.liftI K T.C_Between spi_Between_init) := by
  refine HS.fn_superB kw T.SD_Between_init rfl sc_Between_init rfl rfl rfl rfl rfl (fun _ => rfl) (fun _ => rfl) (fun _ => rfl) (fun _ => rfl) (fun _ => rfl) (fun vs H Q E h => ?_) (fun A outer s H vs Q E hr h => ?_)
  · obtain ⟨cx, nn, x, dx, ws, args, Qd, Ed, rfl, hc, hsp⟩ := h
    obtain ⟨d0, rfl, ok0, q⟩ := hsp
    exact congrArg (· + 1) hc.ra.len
  obtain ⟨cx, nn, x, dx, ws, args, Qd, Ed, rfl, hc, hsp⟩ := h
  obtain ⟨d0, rfl, ok0, q⟩ := hsp
  have hwl : ws.length = 1 := hc.ra.len
  match ws, hwl with
  | [w0], _ =>
  refine ⟨x, T.C_Between, dx, T.f_Paper_init, [], _, _, _, HD.liftI K T.C_Between (HD.spi_Paper 2), rfl, hc.hx, T.su_Between_Between, (okC_Paper_init T T.pc_Between).mono (by decide), (pa_cons pe_str (pa_cons (pv 1) pa_nil)), (pss_one (HC.ps_fldK (K := K) (pv 0) (pe_ix (ix_K (K := K)) (HC.pe_fldK (K := K) (pv 0)) pe_int (fun _ _ => rfl)))), ?_⟩
  generalize hσ : NdefX.startF n_Between_init [V.ref x, w0] [none] = σ0
  obtain ⟨L, s⟩ := HD.enterJ (σ := σ0) hc (m := 1) (es := [d0]) (by rw [← hσ]; rfl)
  refine HD.super_ (ds := []) rfl (D := ⟨fun ρ m => ∃ fs, ρ[0]? = some (.me x (.ins T.C_Between fs)) ∧ Qd fs m, fun _ _ => False, fun _ _ => False, fun _ _ => False⟩) ?_ ⟨_, _, s⟩ ⟨fun ρ n σ H ⟨fs, h0, q⟩ s => HD.leaveI hc s h0 q, fun _ _ _ _ q => q.elim, fun _ _ _ _ q => q.elim, fun _ _ _ _ q => q.elim⟩
  clear s hc
  dsimp only [List.map, List.replicate, List.cons_append, List.nil_append]
  fail "dr"
  refine ⟨rfl, "between", [d0], rfl, ?_, ?_⟩
  · simp only [HD.okF, List.length_cons, List.length_nil, List.all_cons, List.all_nil, Bool.and_true, ok0]; rfl
  dsimp only [List.set_cons_zero]
  fail "dr"
  refine ⟨_, rfl, ?_⟩
  exact q
theorem ok_Between_init (T : Tx P K mg) : FnR P w K mg base CX0 5 T.f_Between_init (HD.liftI K T.C_Between spi_Between_init) := fun A outer s H us vs Q E => okK_Between_init T false A outer s H us vs Q E
theorem use_Between_init {d0 : HD.D} {n : Nat} {Q : List (Str × HD.D) → Nat → Prop} {E : HD.XD} (h0 : HD.okF 1 d0 = true) (q : Q [("word", .str "between"), ("parts", .tup [d0.fix]), ("low", d0.fix)] n) : spi_Between_init [d0] n Q E := ⟨d0, rfl, h0, q⟩

def spi_Whole_init (ds : List HD.D) (n : Nat) (Q : List (Str × HD.D) → Nat → Prop) (_ : HD.XD) : Prop := ∃ d0, ds = [d0] ∧ HD.okF 1 d0 = true ∧ Q [("word", .str "whole"), ("parts", .tup [d0.fix]), ("number", d0.fix)] n
theorem okK_Whole_init (T : Tx P K mg) (kw : Bool) : HS.FnB P w K mg base CX0 5 T.f_Whole_init ["self", "number"] kw (HD.liftI K T.C_Whole spi_Whole_init) := by
  refine HS.fn_superB kw T.SD_Whole_init rfl sc_Whole_init rfl rfl rfl rfl rfl (fun _ => rfl) (fun _ => rfl) (fun _ => rfl) (fun _ => rfl) (fun _ => rfl) (fun vs H Q E h => ?_) (fun A outer s H vs Q E hr h => ?_)
  · obtain ⟨cx, nn, x, dx, ws, args, Qd, Ed, rfl, hc, hsp⟩ := h
    obtain ⟨d0, rfl, ok0, q⟩ := hsp
    exact congrArg (· + 1) hc.ra.len
  obtain ⟨cx, nn, x, dx, ws, args, Qd, Ed, rfl, hc, hsp⟩ := h
  obtain ⟨d0, rfl, ok0, q⟩ := hsp
  have hwl : ws.length = 1 := hc.ra.len
  match ws, hwl with
  | [w0], _ =>
  refine ⟨x, T.C_Whole, dx, T.f_Paper_init, [], _, _, _, HD.liftI K T.C_Whole (HD.spi_Paper 2), rfl, hc.hx, T.su_Whole_Whole, (okC_Paper_init T T.pc_Whole).mono (by decide), (pa_cons pe_str (pa_cons (pv 1) pa_nil)), (pss_one (HC.ps_fldK (K := K) (pv 0) (pe_ix (ix_K (K := K)) (HC.pe_fldK (K := K) (pv 0)) pe_int (fun _ _ => rfl)))), ?_⟩
  generalize hσ : NdefX.startF n_Whole_init [V.ref x, w0] [none] = σ0
  obtain ⟨L, s⟩ := HD.enterJ (σ := σ0) hc (m := 1) (es := [d0]) (by rw [← hσ]; rfl)
  refine HD.super_ (ds := []) rfl (D := ⟨fun ρ m => ∃ fs, ρ[0]? = some (.me x (.ins T.C_Whole fs)) ∧ Qd fs m, fun _ _ => False, fun _ _ => False, fun _ _ => False⟩) ?_ ⟨_, _, s⟩ ⟨fun ρ n σ H ⟨fs, h0, q⟩ s => HD.leaveI hc s h0 q, fun _ _ _ _ q => q.elim, fun _ _ _ _ q => q.elim, fun _ _ _ _ q => q.elim⟩
  clear s hc
  dsimp only [List.map, List.replicate, List.cons_append, List.nil_append]
  fail "dr"
  refine ⟨rfl, "whole", [d0], rfl, ?_, ?_⟩
  · simp only [HD.okF, List.length_cons, List.length_nil, List.all_cons, List.all_nil, Bool.and_true, ok0]; rfl
  dsimp only [List.set_cons_zero]
  fail "dr"
  refine ⟨_, rfl, ?_⟩
  exact q
theorem ok_Whole_init (T : Tx P K mg) : FnR P w K mg base CX0 5 T.f_Whole_init (HD.liftI K T.C_Whole spi_Whole_init) := fun A outer s H us vs Q E => okK_Whole_init T false A outer s H us vs Q E
theorem use_Whole_init {d0 : HD.D} {n : Nat} {Q : List (Str × HD.D) → Nat → Prop} {E : HD.XD} (h0 : HD.okF 1 d0 = true) (q : Q [("word", .str "whole"), ("parts", .tup [d0.fix]), ("number", d0.fix)] n) : spi_Whole_init [d0] n Q E := ⟨d0, rfl, h0, q⟩

def spi_NoWhole_init (ds : List HD.D) (n : Nat) (Q : List (Str × HD.D) → Nat → Prop) (_ : HD.XD) : Prop := ∃ d0, ds = [d0] ∧ HD.okF 1 d0 = true ∧ Q [("word", .str "nowhole"), ("parts", .tup [d0.fix]), ("low", d0.fix)] n
theorem okK_NoWhole_init (T : Tx P K mg) (kw : Bool) : HS.FnB P w K mg base CX0 5 T.f_NoWhole_init ["self", "low"] kw (HD.liftI K T.C_NoWhole spi_NoWhole_init) := by
  refine HS.fn_superB kw T.SD_NoWhole_init rfl sc_NoWhole_init rfl rfl rfl rfl rfl (fun _ => rfl) (fun _ => rfl) (fun _ => rfl) (fun _ => rfl) (fun _ => rfl) (fun vs H Q E h => ?_) (fun A outer s H vs Q E hr h => ?_)
  · obtain ⟨cx, nn, x, dx, ws, args, Qd, Ed, rfl, hc, hsp⟩ := h
    obtain ⟨d0, rfl, ok0, q⟩ := hsp
    exact congrArg (· + 1) hc.ra.len
  obtain ⟨cx, nn, x, dx, ws, args, Qd, Ed, rfl, hc, hsp⟩ := h
  obtain ⟨d0, rfl, ok0, q⟩ := hsp
  have hwl : ws.length = 1 := hc.ra.len
  match ws, hwl with
  | [w0], _ =>
  refine ⟨x, T.C_NoWhole, dx, T.f_Paper_init, [], _, _, _, HD.liftI K T.C_NoWhole (HD.spi_Paper 2), rfl, hc.hx, T.su_NoWhole_NoWhole, (okC_Paper_init T T.pc_NoWhole).mono (by decide), (pa_cons pe_str (pa_cons (pv 1) pa_nil)), (pss_one (HC.ps_fldK (K := K) (pv 0) (pe_ix (ix_K (K := K)) (HC.pe_fldK (K := K) (pv 0)) pe_int (fun _ _ => rfl)))), ?_⟩
  generalize hσ : NdefX.startF n_NoWhole_init [V.ref x, w0] [none] = σ0
  obtain ⟨L, s⟩ := HD.enterJ (σ := σ0) hc (m := 1) (es := [d0]) (by rw [← hσ]; rfl)
  refine HD.super_ (ds := []) rfl (D := ⟨fun ρ m => ∃ fs, ρ[0]? = some (.me x (.ins T.C_NoWhole fs)) ∧ Qd fs m, fun _ _ => False, fun _ _ => False, fun _ _ => False⟩) ?_ ⟨_, _, s⟩ ⟨fun ρ n σ H ⟨fs, h0, q⟩ s => HD.leaveI hc s h0 q, fun _ _ _ _ q => q.elim, fun _ _ _ _ q => q.elim, fun _ _ _ _ q => q.elim⟩
  clear s hc
  dsimp only [List.map, List.replicate, List.cons_append, List.nil_append]
  fail "dr"
  refine ⟨rfl, "nowhole", [d0], rfl, ?_, ?_⟩
  · simp only [HD.okF, List.length_cons, List.length_nil, List.all_cons, List.all_nil, Bool.and_true, ok0]; rfl
  dsimp only [List.set_cons_zero]
  fail "dr"
  refine ⟨_, rfl, ?_⟩
  exact q
theorem ok_NoWhole_init (T : Tx P K mg) : FnR P w K mg base CX0 5 T.f_NoWhole_init (HD.liftI K T.C_NoWhole spi_NoWhole_init) := fun A outer s H us vs Q E => okK_NoWhole_init T false A outer s H us vs Q E
theorem use_NoWhole_init {d0 : HD.D} {n : Nat} {Q : List (Str × HD.D) → Nat → Prop} {E : HD.XD} (h0 : HD.okF 1 d0 = true) (q : Q [("word", .str "nowhole"), ("parts", .tup [d0.fix]), ("low", d0.fix)] n) : spi_NoWhole_init [d0] n Q E := ⟨d0, rfl, h0, q⟩

def spi_Uneven_init (ds : List HD.D) (n : Nat) (Q : List (Str × HD.D) → Nat → Prop) (_ : HD.XD) : Prop := ∃ d0, ds = [d0] ∧ HD.okF 1 d0 = true ∧ Q [("word", .str "uneven"), ("parts", .tup [d0.fix]), ("step", d0.fix)] n
theorem okK_Uneven_init (T : Tx P K mg) (kw : Bool) : HS.FnB P w K mg base CX0 5 T.f_Uneven_init ["self", "step"] kw (HD.liftI K T.C_Uneven spi_Uneven_init) := by
  refine HS.fn_superB kw T.SD_Uneven_init rfl sc_Uneven_init rfl rfl rfl rfl rfl (fun _ => rfl) (fun _ => rfl) (fun _ => rfl) (fun _ => rfl) (fun _ => rfl) (fun vs H Q E h => ?_) (fun A outer s H vs Q E hr h => ?_)
  · obtain ⟨cx, nn, x, dx, ws, args, Qd, Ed, rfl, hc, hsp⟩ := h
    obtain ⟨d0, rfl, ok0, q⟩ := hsp
    exact congrArg (· + 1) hc.ra.len
  obtain ⟨cx, nn, x, dx, ws, args, Qd, Ed, rfl, hc, hsp⟩ := h
  obtain ⟨d0, rfl, ok0, q⟩ := hsp
  have hwl : ws.length = 1 := hc.ra.len
  match ws, hwl with
  | [w0], _ =>
  refine ⟨x, T.C_Uneven, dx, T.f_Paper_init, [], _, _, _, HD.liftI K T.C_Uneven (HD.spi_Paper 2), rfl, hc.hx, T.su_Uneven_Uneven, (okC_Paper_init T T.pc_Uneven).mono (by decide), (pa_cons pe_str (pa_cons (pv 1) pa_nil)), (pss_one (HC.ps_fldK (K := K) (pv 0) (pe_ix (ix_K (K := K)) (HC.pe_fldK (K := K) (pv 0)) pe_int (fun _ _ => rfl)))), ?_⟩
  generalize hσ : NdefX.startF n_Uneven_init [V.ref x, w0] [none] = σ0
  obtain ⟨L, s⟩ := HD.enterJ (σ := σ0) hc (m := 1) (es := [d0]) (by rw [← hσ]; rfl)
  refine HD.super_ (ds := []) rfl (D := ⟨fun ρ m => ∃ fs, ρ[0]? = some (.me x (.ins T.C_Uneven fs)) ∧ Qd fs m, fun _ _ => False, fun _ _ => False, fun _ _ => False⟩) ?_ ⟨_, _, s⟩ ⟨fun ρ n σ H ⟨fs, h0, q⟩ s => HD.leaveI hc s h0 q, fun _ _ _ _ q => q.elim, fun _ _ _ _ q => q.elim, fun _ _ _ _ q => q.elim⟩
  clear s hc
  dsimp only [List.map, List.replicate, List.cons_append, List.nil_append]
  fail "dr"
  refine ⟨rfl, "uneven", [d0], rfl, ?_, ?_⟩
  · simp only [HD.okF, List.length_cons, List.length_nil, List.all_cons, List.all_nil, Bool.and_true, ok0]; rfl
  dsimp only [List.set_cons_zero]
  fail "dr"
  refine ⟨_, rfl, ?_⟩
  exact q
theorem ok_Uneven_init (T : Tx P K mg) : FnR P w K mg base CX0 5 T.f_Uneven_init (HD.liftI K T.C_Uneven spi_Uneven_init) := fun A outer s H us vs Q E => okK_Uneven_init T false A outer s H us vs Q E
theorem use_Uneven_init {d0 : HD.D} {n : Nat} {Q : List (Str × HD.D) → Nat → Prop} {E : HD.XD} (h0 : HD.okF 1 d0 = true) (q : Q [("word", .str "uneven"), ("parts", .tup [d0.fix]), ("step", d0.fix)] n) : spi_Uneven_init [d0] n Q E := ⟨d0, rfl, h0, q⟩

def isI : HD.D → Bool
  | .int _ => true
  | _ => false
def spd_is_integer (ds : List HD.D) (n : Nat) (Q : HD.I → Nat → Prop) (_ : HD.XD) : Prop := ∃ (d : HD.D), ds = [d] ∧ (d.tn.isSome = true) ∧ Q (.v (.bl (isI d))) n
theorem use_is_integer {d : HD.D} {n : Nat} {Q : HD.I → Nat → Prop} {E : HD.XD} (h : d.tn.isSome = true) (q : Q (.v (.bl (isI d))) n) : spd_is_integer [d] n Q E := ⟨d, rfl, h, q⟩
theorem ok_is_integer (T : Tx P K mg) : FnOk P w K mg base CX0 1 T.f_is_integer T.fd_is_integer ["value"] (HD.lift K spd_is_integer) := by
  refine T.F_is_integer.ok sc_is_integer (fun vs H Q E h => ?_) (fun cdv A outer s H vs Q E hr h => ?_)
  · obtain ⟨cx, nn, args, Qd, Ed, hc, hsp⟩ := h
    obtain ⟨d, rfl, h, q⟩ := hsp
    exact hc.ra.len
  obtain ⟨cx, nn, args, Qd, Ed, hc, hsp⟩ := h
  obtain ⟨d, rfl, h, q⟩ := hsp
  refine ⟨_, (pss_one (ps_ret (pe_and (pe_callB (call_isiK' (K := K)) (by rfl) T.z_isinstance (by decide +kernel) (pa_cons (pv 0) (pa_cons (pe_bltn (v := .ty "int") (by rfl) T.z_int (by decide +kernel) rfl) pa_nil))) (pe_one (pe_not (pe_callB (call_isiK' (K := K)) (by rfl) T.z_isinstance (by decide +kernel) (pa_cons (pv 0) (pa_cons (pe_bltn (v := .ty "bool") (by rfl) T.z_bool (by decide +kernel) rfl) pa_nil)))))))), HD.enter (ρ := [HD.S.v (d : HD.D)]) hc rfl ?_⟩
  clear hc

  fail "dr"
  cases d <;> first | (simp [HD.D.tn] at h; done) | skip
  all_goals
    fail "dr"
    exact q
local macro_rules | `(tactic| fail "du") => `(tactic| ((with_reducible refine' use_is_integer ?h ?_); (case h => first | rfl | assumption)))
def isWi (d : HD.D) (lo hi : Option Int) : Bool := match d with
  | .int i => (match lo with | some l => decide (l ≤ i) | none => true) && (match hi with | some h => decide (i ≤ h) | none => true)
  | _ => false
def optD : Option Int → HD.D
  | some i => .int i
  | none => .non
def spd_is_within (ds : List HD.D) (n : Nat) (Q : HD.I → Nat → Prop) (_ : HD.XD) : Prop := ∃ d lo hi, ds = [d, optD lo, optD hi] ∧ d.tn.isSome = true ∧ Q (.v (.bl (isWi d lo hi))) n
theorem ok_is_within (T : Tx P K mg) : FnOk P w K mg base CX0 2 T.f_is_within T.fd_is_within ["value", "least", "most"] (HD.lift K spd_is_within) := by
  refine T.F_is_within.ok sc_is_within (fun vs H Q E h => ?_) (fun cdv A outer s H vs Q E hr h => ?_)
  · obtain ⟨cx, nn, args, Qd, Ed, hc, hsp⟩ := h
    obtain ⟨d, lo, hi, rfl, h, q⟩ := hsp
    exact hc.ra.len
  obtain ⟨cx, nn, args, Qd, Ed, hc, hsp⟩ := h
  obtain ⟨d, lo, hi, rfl, h, q⟩ := hsp
  refine ⟨_, (pss_cons (ps_if (PW.pt (pw_or (pt_not (pt_val (pe_call (ok_is_integer T) (hr.mono (by decide)) (by rfl) T.g_is_integer T.F_is_integer.kp T.b_is_integer .nil pass0 (pa_cons (pv 0) pa_nil)))) (pw_or1 (PW.pt (pw_and (pt_cmpR op_notNU (pv 1) pe_non (nomark _)) (pw_and1 (pt_cmpR op_lt (pv 0) (pv 1) (nomark _)))))))) (pss_one (ps_ret pe_bl)) pss_nil)
      (pss_one (ps_ret (pe_or (pe_cmpR op_isNU (pv 2) pe_non (nomark _)) (pe_one (pe_cmpR op_le (pv 0) (pv 2) (nomark _))))))), HD.enter (ρ := [HD.S.v (d : HD.D), HD.S.v (optD lo : HD.D), HD.S.v (optD hi : HD.D)]) hc rfl ?_⟩
  clear hc

  fail "dr"
  cases d <;> first | (simp [HD.D.tn] at h; done) | skip
  case int i =>
    cases lo <;> cases hi <;> simp only [optD]
    · fail "dr"
      exact q
    · fail "dr"
      simpa [isWi] using q
    · rename_i l
      fail "dr"
      refine HX.ited_ (fun h1 => ?_) (fun h1 => ?_)
      · fail "dr"
        have e : isWi (.int i) (some l) none = false := by simp only [isWi, Bool.and_true]; exact decide_eq_false (by omega)
        rw [e] at q
        exact q
      · fail "dr"
        have e : isWi (.int i) (some l) none = true := by simp only [isWi, Bool.and_true]; exact decide_eq_true (by omega)
        rw [e] at q
        exact q
    · rename_i l u
      fail "dr"
      refine HX.ited_ (fun h1 => ?_) (fun h1 => ?_)
      · fail "dr"
        have e : isWi (.int i) (some l) (some u) = false := by simp only [isWi]; rw [decide_eq_false (by omega : ¬ l ≤ i), Bool.false_and]
        rw [e] at q
        exact q
      · fail "dr"
        have e : isWi (.int i) (some l) (some u) = decide (i ≤ u) := by simp only [isWi]; rw [decide_eq_true (by omega : l ≤ i), Bool.true_and]
        rw [e] at q
        exact q
  all_goals
    fail "dr"
    exact q
theorem use_is_within {v lo hi : Int} {n : Nat} {Q : HD.I → Nat → Prop} {E : HD.XD} (h : lo ≤ v ∧ v ≤ hi) (q : Q (.v (.bl true)) n) : spd_is_within [.int v, .int lo, .int hi] n Q E := ⟨.int v, some lo, some hi, rfl, rfl, by
  have e : isWi (.int v) (some lo) (some hi) = true := by simp only [isWi]; rw [decide_eq_true h.1, decide_eq_true h.2]; rfl
  rw [e]; exact q⟩
local macro_rules | `(tactic| fail "du") => `(tactic| ((with_reducible refine' use_is_within ?h ?_); (case h => constructor <;> omega)))
def spd_need_number (ds : List HD.D) (n : Nat) (Q : HD.I → Nat → Prop) (_ : HD.XD) : Prop := ∃ (v lo hi : Int) (z : Str), ds = [.int v, .str z, .int lo, .int hi] ∧ (lo ≤ v ∧ v ≤ hi) ∧ Q (.v .non) n
theorem use_need_number {v lo hi : Int} {z : Str} {n : Nat} {Q : HD.I → Nat → Prop} {E : HD.XD} (h : lo ≤ v ∧ v ≤ hi) (q : Q (.v .non) n) : spd_need_number [.int v, .str z, .int lo, .int hi] n Q E := ⟨v, lo, hi, z, rfl, h, q⟩
theorem ok_need_number (T : Tx P K mg) : FnOk P w K mg base CX0 3 T.f_need_number T.fd_need_number ["value", "part", "least", "most"] (HD.lift K spd_need_number) := by
  refine T.F_need_number.ok sc_need_number (fun vs H Q E h => ?_) (fun cdv A outer s H vs Q E hr h => ?_)
  · obtain ⟨cx, nn, args, Qd, Ed, hc, hsp⟩ := h
    obtain ⟨v, lo, hi, z, rfl, h, q⟩ := hsp
    exact hc.ra.len
  obtain ⟨cx, nn, args, Qd, Ed, hc, hsp⟩ := h
  obtain ⟨v, lo, hi, z, rfl, h, q⟩ := hsp
  refine ⟨_, (pss_one (ps_if (pt_not (pt_val (pe_call (ok_is_within T) (hr.mono (by decide)) (by rfl) T.g_is_within T.F_is_within.kp T.b_is_within .nil pass0 (pa_cons (pv 0) (pa_cons (pv 2) (pa_cons (pv 3) pa_nil)))))) (pss_one ps_never) pss_nil)), HD.enter (ρ := [HD.S.v (.int v : HD.D), HD.S.v (.str z : HD.D), HD.S.v (.int lo : HD.D), HD.S.v (.int hi : HD.D)]) hc rfl ?_⟩
  clear hc

  fail "dr"
  exact q
local macro_rules | `(tactic| fail "du") => `(tactic| ((with_reducible refine' use_need_number ?h ?_); (case h => first | assumption | trivial | omega | (constructor <;> omega))))
def spd_raised (ds : List HD.D) (n : Nat) (Q : HD.I → Nat → Prop) (_ : HD.XD) : Prop := ∃ (x k : Int), ds = [.int x, .int k] ∧ ((0 ≤ k ∧ k ≤ 80) ∧ (-(2 ^ 64) < x ∧ x < 2 ^ 64)) ∧ Q (.v (.int (x ^ k.toNat))) n
theorem use_raised {x k : Int} {n : Nat} {Q : HD.I → Nat → Prop} {E : HD.XD} (h : (0 ≤ k ∧ k ≤ 80) ∧ (-(2 ^ 64) < x ∧ x < 2 ^ 64)) (q : Q (.v (.int (x ^ k.toNat))) n) : spd_raised [.int x, .int k] n Q E := ⟨x, k, rfl, h, q⟩
theorem ok_raised (T : Tx P K mg) : FnOk P w K mg base CX0 1 T.f_raised T.fd_raised ["number", "many"] (HD.lift K spd_raised) := by
  refine T.F_raised.ok sc_raised (fun vs H Q E h => ?_) (fun cdv A outer s H vs Q E hr h => ?_)
  · obtain ⟨cx, nn, args, Qd, Ed, hc, hsp⟩ := h
    obtain ⟨x, k, rfl, h, q⟩ := hsp
    exact hc.ra.len
  obtain ⟨cx, nn, args, Qd, Ed, hc, hsp⟩ := h
  obtain ⟨x, k, rfl, h, q⟩ := hsp
  refine ⟨_, (pss_cons (ps_set (i := 2) sc_raised.nd rfl (by first | exact .inl rfl | exact .inr rfl) pe_int)
      (pss_cons (ps_for PassesOwn.never (by rfl) (pi_range1 (by rfl) T.z_range (pa_cons (pv 1) pa_nil)) (pg_name (i := 3) sc_raised.nd rfl (by first | exact .inl rfl | exact .inr rfl)) (pss_one (ps_set (i := 2) sc_raised.nd rfl (by first | exact .inl rfl | exact .inr rfl) (pe_op op_mulU (pv 2) (pv 0)))))
      (pss_one (ps_ret (pv 2))))), HD.enter (ρ := [HD.S.v (.int x : HD.D), HD.S.v (.int k : HD.D), HD.S.un, HD.S.un]) hc rfl ?_⟩
  clear hc

  obtain ⟨hk, hx⟩ := h
  fail "dr"
  refine HD.ForD.inv (fun i ρ m => m = nn ∧ ∃ y, ρ = [.v (.int x), .v (.int k), .v (.int (x ^ i)), y]) ⟨rfl, .un, by rw [Int.pow_zero]⟩ (fun i d ρ m hd hi p => ?_) (fun ρ m p => ?_)
  · obtain ⟨rfl, y, rfl⟩ := p
    fail "dr"
    exact ⟨rfl, _, by rw [Int.pow_succ]⟩
  · obtain ⟨rfl, y, rfl⟩ := p
    rw [HD.rngD_len]
    fail "dr"
    exact q
local macro_rules | `(tactic| fail "du") => `(tactic| ((with_reducible refine' use_raised ?h ?_); (case h => refine ⟨?_, ?_⟩ <;> first | assumption | (constructor <;> omega))))
theorem prod2_bd {x y : Int} {m n : Nat} (hx : 0 ≤ x ∧ x ≤ m) (hy : 0 ≤ y ∧ y ≤ n) : 0 ≤ x * y ∧ x * y ≤ ((m * n : Nat) : Int) := by
  refine ⟨Int.mul_nonneg hx.1 hy.1, ?_⟩
  rw [Int.natCast_mul]
  exact Int.mul_le_mul hx.2 hy.2 hy.1 (by omega)
theorem prod3_bd {x y z : Int} (hx : 1 ≤ x ∧ x ≤ 1000000) (hy : 1 ≤ y ∧ y ≤ 1000000) (hz : 1 ≤ z ∧ z ≤ 1000000) : -(2 ^ 64) < x * y * z ∧ x * y * z < 2 ^ 64 := by
  have h1 := prod2_bd (x := x) (y := y) (m := 1000000) (n := 1000000) (by omega) (by omega)
  have h2 := prod2_bd (x := x * y) (y := z) (m := 1000000 * 1000000) (n := 1000000) h1 (by omega)
  constructor <;> omega
/-- what lifted tells -/
def lift (a b c d p : Int) : List Int := if p < 0 then [(b * c * d) ^ (-p).toNat, (a * c * d) ^ (-p).toNat, (a * b * d) ^ (-p).toNat, (a * b * c) ^ (-p).toNat] else [a ^ p.toNat, b ^ p.toNat, c ^ p.toNat, d ^ p.toNat]
def S (a b c d p : Int) : Int := if p < 0 then (b * c * d) ^ (-p).toNat + (a * b * c) ^ (-p).toNat - (a * c * d) ^ (-p).toNat - (a * b * d) ^ (-p).toNat else a ^ p.toNat + d ^ p.toNat - b ^ p.toNat - c ^ p.toNat
structure Ok4 (a b c d : Int) : Prop where
  a : 1 ≤ a ∧ a ≤ 1000000
  b : 1 ≤ b ∧ b ≤ 1000000
  c : 1 ≤ c ∧ c ≤ 1000000
  d : 1 ≤ d ∧ d ≤ 1000000
def liftD (a b c d p : Int) : List HD.D := (lift a b c d p).map HD.D.int
def spd_lifted (ds : List HD.D) (n : Nat) (Q : HD.I → Nat → Prop) (_ : HD.XD) : Prop := ∃ (a b c d p : Int), ds = [.int a, .int b, .int c, .int d, .int p] ∧ (Ok4 a b c d ∧ (-80 ≤ p ∧ p ≤ 80)) ∧ Q (.o (.lst (liftD a b c d p))) n
theorem use_lifted {a b c d p : Int} {n : Nat} {Q : HD.I → Nat → Prop} {E : HD.XD} (h : Ok4 a b c d ∧ (-80 ≤ p ∧ p ≤ 80)) (q : Q (.o (.lst (liftD a b c d p))) n) : spd_lifted [.int a, .int b, .int c, .int d, .int p] n Q E := ⟨a, b, c, d, p, rfl, h, q⟩
theorem ok_lifted (T : Tx P K mg) : FnOk P w K mg base CX0 2 T.f_lifted T.fd_lifted ["a", "b", "c", "d", "power"] (HD.lift K spd_lifted) := by
  refine T.F_lifted.ok sc_lifted (fun vs H Q E h => ?_) (fun cdv A outer s H vs Q E hr h => ?_)
  · obtain ⟨cx, nn, args, Qd, Ed, hc, hsp⟩ := h
    obtain ⟨a, b, c, d, p, rfl, h, q⟩ := hsp
    exact hc.ra.len
  obtain ⟨cx, nn, args, Qd, Ed, hc, hsp⟩ := h
  obtain ⟨a, b, c, d, p, rfl, h, q⟩ := hsp
  refine ⟨_, (pss_cons (ps_if (pt_cmpR op_lt (pv 4) pe_int (nomark _)) (pss_one (ps_ret (pe_lc (own := [("number", 5)]) (g := gName 5) (tt := tYes) (by rfl) sc_lifted.nd (pi_tupK (K := K) (pe_tup (pa_cons (pe_op op_mulU (pe_op op_mulU (pv 1) (pv 2)) (pv 3)) (pa_cons (pe_op op_mulU (pe_op op_mulU (pv 0) (pv 2)) (pv 3)) (pa_cons (pe_op op_mulU (pe_op op_mulU (pv 0) (pv 1)) (pv 3)) (pa_cons (pe_op op_mulU (pe_op op_mulU (pv 0) (pv 1)) (pv 2)) pa_nil)))))) (blkOk_by (own := [("number", 5)]) (N := n_lifted) (sc := defScope s_lifted) (by decide +kernel)) (fun _ _ _ _ _ => (pg_name (i := 5) sc_lifted.nd rfl (by first | exact .inl rfl | exact .inr rfl))) (fun _ _ _ _ _ => pts_nil) (fun _ _ _ _ _ => (pe_call (ok_raised T) (hr.mono (by decide)) (by rfl) T.g_raised T.F_raised.kp T.b_raised .nil pass0 (pa_cons (pv 5) (pa_cons (pe_un un_neg (pv 4)) pa_nil))))))) pss_nil)
      (pss_one (ps_ret (pe_lc (own := [("number", 5)]) (g := gName 5) (tt := tYes) (by rfl) sc_lifted.nd (pi_tupK (K := K) (pe_tup (pa_cons (pv 0) (pa_cons (pv 1) (pa_cons (pv 2) (pa_cons (pv 3) pa_nil)))))) (blkOk_by (own := [("number", 5)]) (N := n_lifted) (sc := defScope s_lifted) (by decide +kernel)) (fun _ _ _ _ _ => (pg_name (i := 5) sc_lifted.nd rfl (by first | exact .inl rfl | exact .inr rfl))) (fun _ _ _ _ _ => pts_nil) (fun _ _ _ _ _ => (pe_call (ok_raised T) (hr.mono (by decide)) (by rfl) T.g_raised T.F_raised.kp T.b_raised .nil pass0 (pa_cons (pv 5) (pa_cons (pv 4) pa_nil)))))))), HD.enter (ρ := [HD.S.v (.int a : HD.D), HD.S.v (.int b : HD.D), HD.S.v (.int c : HD.D), HD.S.v (.int d : HD.D), HD.S.v (.int p : HD.D), HD.S.un]) hc rfl ?_⟩
  clear hc

  obtain ⟨⟨ha, hb, hc, hd⟩, hp⟩ := h
  have b1 := prod3_bd hb hc hd
  have b2 := prod3_bd ha hc hd
  have b3 := prod3_bd ha hb hd
  have b4 := prod3_bd ha hb hc
  fail "dr"
  refine HX.ited_ (fun h => ?_) (fun h => ?_)
  · have e : liftD a b c d p = _ := congrArg (List.map HD.D.int) (if_pos h)
    rw [e] at q
    fail "dr"
    exact q
  · have e : liftD a b c d p = _ := congrArg (List.map HD.D.int) (if_neg h)
    rw [e] at q
    fail "dr"
    exact q
local macro_rules | `(tactic| fail "du") => `(tactic| ((with_reducible refine' use_lifted ?h ?_); (case h => first | assumption | (refine ⟨by assumption, ?_⟩; first | assumption | (constructor <;> omega)))))
def spd_sum_at (ds : List HD.D) (n : Nat) (Q : HD.I → Nat → Prop) (_ : HD.XD) : Prop := ∃ (a b c d p : Int), ds = [.int a, .int b, .int c, .int d, .int p] ∧ (Ok4 a b c d ∧ (-80 ≤ p ∧ p ≤ 80)) ∧ Q (.v (.int (S a b c d p))) n
theorem use_sum_at {a b c d p : Int} {n : Nat} {Q : HD.I → Nat → Prop} {E : HD.XD} (h : Ok4 a b c d ∧ (-80 ≤ p ∧ p ≤ 80)) (q : Q (.v (.int (S a b c d p))) n) : spd_sum_at [.int a, .int b, .int c, .int d, .int p] n Q E := ⟨a, b, c, d, p, rfl, h, q⟩
theorem ok_sum_at (T : Tx P K mg) : FnOk P w K mg base CX0 3 T.f_sum_at T.fd_sum_at ["a", "b", "c", "d", "power"] (HD.lift K spd_sum_at) := by
  refine T.F_sum_at.ok sc_sum_at (fun vs H Q E h => ?_) (fun cdv A outer s H vs Q E hr h => ?_)
  · obtain ⟨cx, nn, args, Qd, Ed, hc, hsp⟩ := h
    obtain ⟨a, b, c, d, p, rfl, h, q⟩ := hsp
    exact hc.ra.len
  obtain ⟨cx, nn, args, Qd, Ed, hc, hsp⟩ := h
  obtain ⟨a, b, c, d, p, rfl, h, q⟩ := hsp
  refine ⟨_, (pss_cons (ps_asg (pe_call (ok_lifted T) (hr.mono (by decide)) (by rfl) T.g_lifted T.F_lifted.kp T.b_lifted .nil pass0 (pa_cons (pv 0) (pa_cons (pv 1) (pa_cons (pv 2) (pa_cons (pv 3) (pa_cons (pv 4) pa_nil)))))) (pg_unlK (K := K) 4 (by rfl) (pgs_cons (pg_name (i := 5) sc_sum_at.nd rfl (by first | exact .inl rfl | exact .inr rfl)) (pgs_cons (pg_name (i := 6) sc_sum_at.nd rfl (by first | exact .inl rfl | exact .inr rfl)) (pgs_cons (pg_name (i := 7) sc_sum_at.nd rfl (by first | exact .inl rfl | exact .inr rfl)) (pgs_cons (pg_name (i := 8) sc_sum_at.nd rfl (by first | exact .inl rfl | exact .inr rfl)) pgs_nil))))))
      (pss_one (ps_ret (pe_op op_sub (pe_op op_sub (pe_op (op_addK (K := K)) (pv 5) (pv 8)) (pv 6)) (pv 7))))), HD.enter (ρ := [HD.S.v (.int a : HD.D), HD.S.v (.int b : HD.D), HD.S.v (.int c : HD.D), HD.S.v (.int d : HD.D), HD.S.v (.int p : HD.D), HD.S.un, HD.S.un, HD.S.un, HD.S.un]) hc rfl ?_⟩
  clear hc

  fail "dr"
  unfold S at q
  unfold liftD lift
  by_cases h1 : p < 0
  · rw [if_pos h1] at q ⊢
    fail "dr"
    exact q
  · rw [if_neg h1] at q ⊢
    fail "dr"
    exact q
local macro_rules | `(tactic| fail "du") => `(tactic| ((with_reducible refine' use_sum_at ?h ?_); (case h => first | assumption | (refine ⟨by assumption, ?_⟩; first | assumption | (constructor <;> omega)))))
def By (a b c d p : Int) : Bool := if p = 0 then decide (a * d = b * c) else decide (S a b c d p = 0)
theorem Ok4.bd {a b c d : Int} (h : Ok4 a b c d) : (1 ≤ a ∧ a ≤ 1000000) ∧ (1 ≤ b ∧ b ≤ 1000000) ∧ (1 ≤ c ∧ c ≤ 1000000) ∧ (1 ≤ d ∧ d ≤ 1000000) := ⟨h.a, h.b, h.c, h.d⟩
def spd_holds_by (ds : List HD.D) (n : Nat) (Q : HD.I → Nat → Prop) (_ : HD.XD) : Prop := ∃ (a b c d p : Int), ds = [.int a, .int b, .int c, .int d, .int p] ∧ (Ok4 a b c d ∧ (-80 ≤ p ∧ p ≤ 80)) ∧ Q (.v (.bl (By a b c d p))) n
theorem use_holds_by {a b c d p : Int} {n : Nat} {Q : HD.I → Nat → Prop} {E : HD.XD} (h : Ok4 a b c d ∧ (-80 ≤ p ∧ p ≤ 80)) (q : Q (.v (.bl (By a b c d p))) n) : spd_holds_by [.int a, .int b, .int c, .int d, .int p] n Q E := ⟨a, b, c, d, p, rfl, h, q⟩
theorem ok_holds_by (T : Tx P K mg) : FnOk P w K mg base CX0 4 T.f_holds_by T.fd_holds_by ["a", "b", "c", "d", "power"] (HD.lift K spd_holds_by) := by
  refine T.F_holds_by.ok sc_holds_by (fun vs H Q E h => ?_) (fun cdv A outer s H vs Q E hr h => ?_)
  · obtain ⟨cx, nn, args, Qd, Ed, hc, hsp⟩ := h
    obtain ⟨a, b, c, d, p, rfl, h, q⟩ := hsp
    exact hc.ra.len
  obtain ⟨cx, nn, args, Qd, Ed, hc, hsp⟩ := h
  obtain ⟨a, b, c, d, p, rfl, h, q⟩ := hsp
  refine ⟨_, (pss_one (ps_ret (pe_ifExp (pt_cmpR (op_eqK (K := K) hr.units) (pv 4) pe_int (nomark _)) (pe_cmpR (op_eqK (K := K) hr.units) (pe_op op_mulU (pv 0) (pv 3)) (pe_op op_mulU (pv 1) (pv 2)) (nomark _)) (pe_cmpR (op_eqK (K := K) hr.units) (pe_call (ok_sum_at T) (hr.mono (by decide)) (by rfl) T.g_sum_at T.F_sum_at.kp T.b_sum_at .nil pass0 (pa_cons (pv 0) (pa_cons (pv 1) (pa_cons (pv 2) (pa_cons (pv 3) (pa_cons (pv 4) pa_nil)))))) pe_int (nomark _))))), HD.enter (ρ := [HD.S.v (.int a : HD.D), HD.S.v (.int b : HD.D), HD.S.v (.int c : HD.D), HD.S.v (.int d : HD.D), HD.S.v (.int p : HD.D)]) hc rfl ?_⟩
  clear hc

  have bd := h.1.bd
  unfold By at q
  fail "dr"
  refine HX.ited_ (fun h1 => ?_) (fun h1 => ?_)
  · rw [if_pos h1] at q
    fail "dr"
    exact q
  · rw [if_neg h1] at q
    fail "dr"
    exact q
local macro_rules | `(tactic| fail "du") => `(tactic| ((with_reducible refine' use_holds_by ?h ?_); (case h => first | assumption | (refine ⟨by assumption, ?_⟩; first | assumption | (constructor <;> omega)))))
structure Grow (a b c d : Int) : Prop where
  g1 : 1 ≤ a
  g2 : a < b
  g3 : b ≤ c
  g4 : c < d
  g5 : d ≤ 99
theorem Grow.ok4 {a b c d : Int} (g : Grow a b c d) : Ok4 a b c d := by
  obtain ⟨h1, h2, h3, h4, h5⟩ := g
  exact ⟨by omega, by omega, by omega, by omega⟩
def spd_need_growing (ds : List HD.D) (n : Nat) (Q : HD.I → Nat → Prop) (_ : HD.XD) : Prop := ∃ (a b c d : Int), ds = [.int a, .int b, .int c, .int d] ∧ (Grow a b c d) ∧ Q (.v .non) n
theorem use_need_growing {a b c d : Int} {n : Nat} {Q : HD.I → Nat → Prop} {E : HD.XD} (h : Grow a b c d) (q : Q (.v .non) n) : spd_need_growing [.int a, .int b, .int c, .int d] n Q E := ⟨a, b, c, d, rfl, h, q⟩
theorem ok_need_growing (T : Tx P K mg) : FnOk P w K mg base CX0 4 T.f_need_growing T.fd_need_growing ["a", "b", "c", "d"] (HD.lift K spd_need_growing) := by
  refine T.F_need_growing.ok sc_need_growing (fun vs H Q E h => ?_) (fun cdv A outer s H vs Q E hr h => ?_)
  · obtain ⟨cx, nn, args, Qd, Ed, hc, hsp⟩ := h
    obtain ⟨a, b, c, d, rfl, h, q⟩ := hsp
    exact hc.ra.len
  obtain ⟨cx, nn, args, Qd, Ed, hc, hsp⟩ := h
  obtain ⟨a, b, c, d, rfl, h, q⟩ := hsp
  refine ⟨_, (pss_cons (ps_expr (pe_call (ok_need_number T) (hr.mono (by decide)) (by rfl) T.g_need_number T.F_need_number.kp T.b_need_number .nil pass0 (pa_cons (pv 0) (pa_cons pe_str (pa_cons pe_int (pa_cons (pe_glob (by rfl) T.c_MOST_TOLD T.r_MOST_TOLD) pa_nil))))))
      (pss_cons (ps_expr (pe_call (ok_need_number T) (hr.mono (by decide)) (by rfl) T.g_need_number T.F_need_number.kp T.b_need_number .nil pass0 (pa_cons (pv 1) (pa_cons pe_str (pa_cons (pe_op (op_addK (K := K)) (pv 0) pe_int) (pa_cons (pe_glob (by rfl) T.c_MOST_TOLD T.r_MOST_TOLD) pa_nil))))))
      (pss_cons (ps_expr (pe_call (ok_need_number T) (hr.mono (by decide)) (by rfl) T.g_need_number T.F_need_number.kp T.b_need_number .nil pass0 (pa_cons (pv 2) (pa_cons pe_str (pa_cons (pv 1) (pa_cons (pe_glob (by rfl) T.c_MOST_TOLD T.r_MOST_TOLD) pa_nil))))))
      (pss_one (ps_expr (pe_call (ok_need_number T) (hr.mono (by decide)) (by rfl) T.g_need_number T.F_need_number.kp T.b_need_number .nil pass0 (pa_cons (pv 3) (pa_cons pe_str (pa_cons (pe_op (op_addK (K := K)) (pv 2) pe_int) (pa_cons (pe_glob (by rfl) T.c_MOST_TOLD T.r_MOST_TOLD) pa_nil)))))))))), HD.enter (ρ := [HD.S.v (.int a : HD.D), HD.S.v (.int b : HD.D), HD.S.v (.int c : HD.D), HD.S.v (.int d : HD.D)]) hc rfl ?_⟩
  clear hc

  obtain ⟨h1, h2, h3, h4, h5⟩ := id h
  fail "dr"
  exact q
local macro_rules | `(tactic| fail "du") => `(tactic| ((with_reducible refine' use_need_growing ?h ?_); (case h => assumption)))
/-- the halving walk -/
def bs (neg : Int → Bool) : Nat → Int → Int → Int
  | 0, _, high => high
  | n + 1, low, high => if high - low > 1 then (if neg ((low + high) / 2) then bs neg n ((low + high) / 2) high else bs neg n low ((low + high) / 2)) else high
theorem bs_bd {neg : Int → Bool} : ∀ {n : Nat} {low high : Int}, low < high → low < bs neg n low high ∧ bs neg n low high ≤ high
  | 0, low, high, h => ⟨h, Int.le_refl _⟩
  | n + 1, low, high, h => by
    rw [bs]
    split
    · split
      · have := bs_bd (neg := neg) (n := n) (low := (low + high) / 2) (high := high) (by omega)
        omega
      · have := bs_bd (neg := neg) (n := n) (low := low) (high := (low + high) / 2) (by omega)
        omega
    · omega
theorem bs_end {neg : Int → Bool} {n : Nat} {low high : Int} (h : ¬ high - low > 1) : bs neg n low high = high := by
  cases n with
  | zero => rfl
  | succ n => rw [bs, if_neg h]
def lst (a b c d side : Int) : Int := bs (fun m => decide (S a b c d (side * m) < 0)) 7 0 80
def spd_least_step (ds : List HD.D) (n : Nat) (Q : HD.I → Nat → Prop) (_ : HD.XD) : Prop := ∃ (a b c d e : Int), ds = [.int a, .int b, .int c, .int d, .int e] ∧ (Grow a b c d ∧ (e = 1 ∨ e = -1)) ∧ Q (.v (.int (lst a b c d e))) n
theorem use_least_step {a b c d e : Int} {n : Nat} {Q : HD.I → Nat → Prop} {E : HD.XD} (h : Grow a b c d ∧ (e = 1 ∨ e = -1)) (q : Q (.v (.int (lst a b c d e))) n) : spd_least_step [.int a, .int b, .int c, .int d, .int e] n Q E := ⟨a, b, c, d, e, rfl, h, q⟩
theorem ok_least_step (T : Tx P K mg) : FnOk P w K mg base CX0 4 T.f_least_step T.fd_least_step ["a", "b", "c", "d", "side"] (HD.lift K spd_least_step) := by
  refine T.F_least_step.ok sc_least_step (fun vs H Q E h => ?_) (fun cdv A outer s H vs Q E hr h => ?_)
  · obtain ⟨cx, nn, args, Qd, Ed, hc, hsp⟩ := h
    obtain ⟨a, b, c, d, e, rfl, h, q⟩ := hsp
    exact hc.ra.len
  obtain ⟨cx, nn, args, Qd, Ed, hc, hsp⟩ := h
  obtain ⟨a, b, c, d, e, rfl, h, q⟩ := hsp
  refine ⟨_, (pss_cons (ps_par (i := 5) (j := 6) (by rfl) sc_least_step.nd rfl rfl (by decide) rfl rfl (pa_cons pe_int (pa_cons (pe_glob (by rfl) T.c_MOST_POWER T.r_MOST_POWER) pa_nil)) (by rfl))
      (pss_cons (ps_while PassesOwn.never (pt_cmpR op_gt (pe_op op_sub (pv 6) (pv 5)) pe_int (nomark _)) (pss_cons (ps_set (i := 7) sc_least_step.nd rfl (by first | exact .inl rfl | exact .inr rfl) (pe_op op_fdivU (pe_op (op_addK (K := K)) (pv 5) (pv 6)) pe_int))
      (pss_one (ps_if (pt_cmpR op_lt (pe_call (ok_sum_at T) (hr.mono (by decide)) (by rfl) T.g_sum_at T.F_sum_at.kp T.b_sum_at .nil pass0 (pa_cons (pv 0) (pa_cons (pv 1) (pa_cons (pv 2) (pa_cons (pv 3) (pa_cons (pe_op op_mulU (pv 4) (pv 7)) pa_nil)))))) pe_int (nomark _)) (pss_one (ps_set (i := 5) sc_least_step.nd rfl (by first | exact .inl rfl | exact .inr rfl) (pv 7))) (pss_one (ps_set (i := 6) sc_least_step.nd rfl (by first | exact .inl rfl | exact .inr rfl) (pv 7)))))))
      (pss_one (ps_ret (pv 6))))), HD.enter (ρ := [HD.S.v (.int a : HD.D), HD.S.v (.int b : HD.D), HD.S.v (.int c : HD.D), HD.S.v (.int d : HD.D), HD.S.v (.int e : HD.D), HD.S.un, HD.S.un, HD.S.un]) hc rfl ?_⟩
  clear hc

  obtain ⟨g, he⟩ := h
  have o := g.ok4
  fail "dr"
  refine HD.while_ (fun m ρ n => n = nn ∧ ∃ low high y, ρ = [.v (.int a), .v (.int b), .v (.int c), .v (.int d), .v (.int e), .v (.int low), .v (.int high), y] ∧ (0 ≤ low ∧ low < high ∧ high ≤ 80 ∧ high - low ≤ 2 ^ m) ∧ bs (fun m => decide (S a b c d (e * m) < 0)) m low high = lst a b c d e) 7 ⟨rfl, 0, 80, .un, rfl, ⟨by omega, by omega, by omega, by omega⟩, rfl⟩ ?_
  rintro m ρ n ⟨rfl, low, high, y, rfl, hb, hbs⟩
  fail "dr"
  refine HX.ited_ (fun h => ?_) (fun h => ?_)
  · cases m with
    | zero => exact absurd hb.2.2.2 (by omega)
    | succ m =>
    have hp : (2 : Int) ^ (m + 1) = 2 * 2 ^ m := by rw [Int.pow_succ]; omega
    rw [hp] at hb
    rw [bs, if_pos (by omega)] at hbs
    have hr' : -80 ≤ e * ((low + high) / 2) ∧ e * ((low + high) / 2) ≤ 80 := by rcases he with rfl | rfl <;> omega
    fail "dr"
    refine HX.ited_ (fun h2 => ?_) (fun h2 => ?_)
    · rw [if_pos (decide_eq_true h2)] at hbs
      fail "dr"
      exact ⟨m, Nat.lt_succ_self m, rfl, _, _, _, rfl, ⟨by omega, by omega, by omega, by omega⟩, hbs⟩
    · rw [if_neg (by rw [decide_eq_false h2]; exact Bool.false_ne_true)] at hbs
      fail "dr"
      exact ⟨m, Nat.lt_succ_self m, rfl, _, _, _, rfl, ⟨by omega, by omega, by omega, by omega⟩, hbs⟩
  · rw [bs_end (by omega)] at hbs
    fail "dr"
    rw [hbs]
    exact q
local macro_rules | `(tactic| fail "du") => `(tactic| ((with_reducible refine' use_least_step ?h ?_); (case h => first | assumption | exact ⟨by assumption, by assumption⟩)))
def resS (a b c d side : Int) : Bool × Int :=
  if S a b c d (side * lst a b c d side) = 0 then (true, side * lst a b c d side) else (false, if side > 0 then lst a b c d side - 1 else - lst a b c d side)
def res (a b c d : Int) : Bool × Int := if a * d = b * c then (true, 0) else resS a b c d (if a * d < b * c then 1 else -1)
/-- the paper of a power, or of two -/
def resP (T : Tx P K mg) (r : Bool × Int) : HD.D := if r.1 = true then .ins T.C_ByPower [("word", .str "bypower"), ("parts", .tup [.int r.2]), ("power", .int r.2)] else .ins T.C_Between [("word", .str "between"), ("parts", .tup [.int r.2]), ("low", .int r.2)]
def spd_power_of (T : Tx P K mg) (ds : List HD.D) (n : Nat) (Q : HD.I → Nat → Prop) (_ : HD.XD) : Prop := ∃ a b c d : Int, ds = [.int a, .int b, .int c, .int d] ∧ Grow a b c d ∧ Q (.o (resP T (res a b c d))) n
theorem ok_power_of (T : Tx P K mg) : FnOk P w K mg base CX0 7 T.f_power_of T.fd_power_of ["a", "b", "c", "d"] (HD.lift K (spd_power_of T)) := by
  refine T.F_power_of.ok sc_power_of (fun vs H Q E h => ?_) (fun cdv A outer s H vs Q E hr h => ?_)
  · obtain ⟨cx, nn, args, Qd, Ed, hc, hsp⟩ := h
    obtain ⟨a, b, c, d, rfl, g, q⟩ := hsp
    exact hc.ra.len
  obtain ⟨cx, nn, args, Qd, Ed, hc, hsp⟩ := h
  obtain ⟨a, b, c, d, rfl, g, q⟩ := hsp
  refine ⟨_, (pss_cons (ps_expr (pe_call (ok_need_growing T) (hr.mono (by decide)) (by rfl) T.g_need_growing T.F_need_growing.kp T.b_need_growing .nil pass0 (pa_cons (pv 0) (pa_cons (pv 1) (pa_cons (pv 2) (pa_cons (pv 3) pa_nil))))))
      (pss_cons (ps_if (pt_cmpR (op_eqK (K := K) hr.units) (pe_op op_mulU (pv 0) (pv 3)) (pe_op op_mulU (pv 1) (pv 2)) (nomark _)) (pss_one (ps_ret (StX.pe_makeR T.mk_ByPower (ok_ByPower_init T) (hr.mono (by decide)) (by rfl) T.g_ByPower pass0 (pa_cons pe_int pa_nil)))) pss_nil)
      (pss_cons (ps_set (i := 4) sc_power_of.nd rfl (by first | exact .inl rfl | exact .inr rfl) (pe_ifExp (pt_cmpR op_lt (pe_op op_mulU (pv 0) (pv 3)) (pe_op op_mulU (pv 1) (pv 2)) (nomark _)) pe_int (pe_un un_neg pe_int)))
      (pss_cons (ps_set (i := 5) sc_power_of.nd rfl (by first | exact .inl rfl | exact .inr rfl) (pe_call (ok_least_step T) (hr.mono (by decide)) (by rfl) T.g_least_step T.F_least_step.kp T.b_least_step .nil pass0 (pa_cons (pv 0) (pa_cons (pv 1) (pa_cons (pv 2) (pa_cons (pv 3) (pa_cons (pv 4) pa_nil)))))))
      (pss_cons (ps_if (pt_cmpR (op_eqK (K := K) hr.units) (pe_call (ok_sum_at T) (hr.mono (by decide)) (by rfl) T.g_sum_at T.F_sum_at.kp T.b_sum_at .nil pass0 (pa_cons (pv 0) (pa_cons (pv 1) (pa_cons (pv 2) (pa_cons (pv 3) (pa_cons (pe_op op_mulU (pv 4) (pv 5)) pa_nil)))))) pe_int (nomark _)) (pss_one (ps_ret (StX.pe_makeR T.mk_ByPower (ok_ByPower_init T) (hr.mono (by decide)) (by rfl) T.g_ByPower pass0 (pa_cons (pe_op op_mulU (pv 4) (pv 5)) pa_nil)))) pss_nil)
      (pss_one (ps_ret (StX.pe_makeR T.mk_Between (ok_Between_init T) (hr.mono (by decide)) (by rfl) T.g_Between pass0 (pa_cons (pe_ifExp (pt_cmpR op_gt (pv 4) pe_int (nomark _)) (pe_op op_sub (pv 5) pe_int) (pe_un un_neg (pv 5))) pa_nil))))))))), HD.enter (ρ := [HD.S.v (.int a : HD.D), HD.S.v (.int b : HD.D), HD.S.v (.int c : HD.D), HD.S.v (.int d : HD.D), HD.S.un, HD.S.un]) hc rfl ?_⟩
  clear hc

  have o := g.ok4
  obtain ⟨g1, g2, g3, g4, g5⟩ := id g
  fail "dr"
  refine HX.ited_ (fun h => ?_) (fun h => ?_)
  · have er : res a b c d = (true, 0) := if_pos h
    rw [er] at q
    fail "dr"
    refine use_ByPower_init rfl ?_
    fail "dr"
    exact q
  · have er : res a b c d = resS a b c d (if a * d < b * c then 1 else -1) := if_neg h
    rw [er] at q
    fail "dr"
    refine HD.joinN_ fun e he => ?_
    have he1 : e = 1 ∨ e = -1 := by
      rcases he with ⟨_, z⟩ | ⟨_, z⟩
      · exact .inl z
      · exact .inr z
    have he2 : (if a * d < b * c then (1 : Int) else -1) = e := by
      rcases he with ⟨z, y⟩ | ⟨z, y⟩
      · rw [if_pos (of_decide_eq_true z), y]
      · rw [if_neg (of_decide_eq_false z), y]
    rw [he2] at q
    clear he2 he er
    fail "dr"
    have bd := bs_bd (neg := fun m => decide (S a b c d (e * m) < 0)) (n := 7) (low := 0) (high := 80) (by omega)
    have hb2 : 0 < lst a b c d e ∧ lst a b c d e ≤ 80 := bd
    have hp : -80 ≤ e * lst a b c d e ∧ e * lst a b c d e ≤ 80 := by rcases he1 with rfl | rfl <;> omega
    have er2 : resS a b c d e = if S a b c d (e * lst a b c d e) = 0 then (true, e * lst a b c d e) else (false, if e > 0 then lst a b c d e - 1 else - lst a b c d e) := rfl
    generalize lst a b c d e = s at hb2 hp er2 ⊢
    fail "dr"
    refine HX.ited_ (fun h2 => ?_) (fun h2 => ?_)
    · rw [if_pos h2] at er2
      rw [er2] at q
      fail "dr"
      refine use_ByPower_init rfl ?_
      fail "dr"
      exact q
    · rw [if_neg h2] at er2
      rw [er2] at q
      fail "dr"
      refine HX.ited_ (fun h3 => ?_) (fun h3 => ?_)
      · rw [if_pos h3] at q
        fail "dr"
        refine use_Between_init rfl ?_
        fail "dr"
        exact q
      · rw [if_neg h3] at q
        fail "dr"
        refine use_Between_init rfl ?_
        fail "dr"
        exact q
theorem use_power_of {T : Tx P K mg} {a b c d : Int} {n : Nat} {Q : HD.I → Nat → Prop} {E : HD.XD} (g : Grow a b c d) (q : Q (.o (resP T (res a b c d))) n) : spd_power_of T [.int a, .int b, .int c, .int d] n Q E := ⟨a, b, c, d, rfl, g, q⟩
local macro_rules | `(tactic| fail "du") => `(tactic| ((with_reducible refine use_power_of ?g ?_); (case g => assumption)))
theorem S_neg {a b c d p : Int} (h : p < 0) : S a b c d p = (b * c * d) ^ (-p).toNat + (a * b * c) ^ (-p).toNat - (a * c * d) ^ (-p).toNat - (a * b * d) ^ (-p).toNat := if_pos h
theorem S_pos {a b c d p : Int} (h : ¬ p < 0) : S a b c d p = a ^ p.toNat + d ^ p.toNat - b ^ p.toNat - c ^ p.toNat := if_neg h
theorem pow_lt {x y : Int} {k : Nat} (hx : 0 ≤ x) (h : x < y) (hk : 0 < k) : x ^ k < y ^ k := by
  obtain ⟨x, rfl⟩ := Int.eq_ofNat_of_zero_le hx
  obtain ⟨y, rfl⟩ := Int.eq_ofNat_of_zero_le (show 0 ≤ y by omega)
  have e1 : x ^ k < y ^ k := Nat.pow_lt_pow_left (by omega) (by omega)
  have e3 : ((x ^ k : Nat) : Int) < ((y ^ k : Nat) : Int) := by omega
  rw [Int.natCast_pow, Int.natCast_pow] at e3
  exact e3
/-! the sign of the sum at each power -/
theorem S_nat (a b c d : Int) (p : Nat) : S a b c d (p : Int) = a ^ p + d ^ p - b ^ p - c ^ p := by
  rw [S_pos (by omega), Int.toNat_natCast]
theorem S_negn (a b c d : Int) (p : Nat) (h : 0 < p) : S a b c d (-(p : Int)) = (a * b * c) ^ p + (b * c * d) ^ p - (a * b * d) ^ p - (a * c * d) ^ p := by
  rw [S_neg (by omega), Int.neg_neg, Int.toNat_natCast]
  omega
structure Gr (a b c d : Int) : Prop where
  g1 : 0 < a
  g2 : a < b
  g3 : b ≤ c
  g4 : c < d
theorem Gr.up {a b c d : Int} (g : Gr a b c d) (q : Nat) (hq : 0 < q) (h : 0 ≤ a ^ q + d ^ q - b ^ q - c ^ q) : ∀ k : Nat, 0 < k → 0 < a ^ (q + k) + d ^ (q + k) - b ^ (q + k) - c ^ (q + k)
  | 0, z => absurd z (by omega)
  | 1, _ => by
    obtain ⟨p, rfl⟩ : ∃ p, q = p + 1 := ⟨q - 1, by omega⟩
    exact THR.grows g.g1 g.g2 g.g3 g.g4 p h
  | k + 2, _ => by
    have ih := Gr.up g q hq h (k + 1) (by omega)
    obtain ⟨p, hp⟩ : ∃ p, q + (k + 1) = p + 1 := ⟨q + k, by omega⟩
    rw [hp] at ih
    rw [show q + (k + 2) = p + 1 + 1 by omega]
    exact THR.grows g.g1 g.g2 g.g3 g.g4 p (Int.le_of_lt ih)
theorem Gr.inv {a b c d : Int} (g : Gr a b c d) : Gr (a * b * c) (a * b * d) (a * c * d) (b * c * d) := by
  obtain ⟨g1, g2, g3, g4⟩ := g
  refine ⟨Int.mul_pos (Int.mul_pos g1 (by omega)) (by omega), Int.mul_lt_mul_of_pos_left g4 (Int.mul_pos g1 (by omega)), ?_, ?_⟩
  · exact Int.mul_le_mul_of_nonneg_right (Int.mul_le_mul_of_nonneg_left g3 (by omega)) (by omega)
  · exact Int.mul_lt_mul_of_pos_right (Int.mul_lt_mul_of_pos_right g2 (by omega)) (by omega)
/-- above nothing stays so, to greater powers -/
theorem Gr.pos_up {a b c d : Int} (g : Gr a b c d) {p q : Int} (hq : 0 < q) (hp : q < p) (h : 0 ≤ S a b c d q) : 0 < S a b c d p := by
  obtain ⟨q, rfl⟩ := Int.eq_ofNat_of_zero_le (show 0 ≤ q by omega)
  obtain ⟨p, rfl⟩ := Int.eq_ofNat_of_zero_le (show 0 ≤ p by omega)
  rw [S_nat] at h ⊢
  have := g.up q (by omega) h (p - q) (by omega)
  rw [show q + (p - q) = p by omega] at this
  exact this
theorem Gr.neg_up {a b c d : Int} (g : Gr a b c d) {p q : Int} (hq : q < 0) (hp : p < q) (h : 0 ≤ S a b c d q) : 0 < S a b c d p := by
  obtain ⟨q', hq'⟩ := Int.eq_ofNat_of_zero_le (show 0 ≤ -q by omega)
  obtain ⟨p', hp'⟩ := Int.eq_ofNat_of_zero_le (show 0 ≤ -p by omega)
  obtain rfl : q = -(q' : Int) := by omega
  obtain rfl : p = -(p' : Int) := by omega
  rw [S_negn _ _ _ _ _ (by omega)] at h ⊢
  have := g.inv.up q' (by omega) h (p' - q') (by omega)
  rw [show q' + (p' - q') = p' by omega] at this
  exact this
theorem S_one (a b c d : Int) : S a b c d 1 = a + d - b - c := by
  have := S_nat a b c d 1
  simp only [Int.pow_succ, Int.pow_zero, Int.one_mul] at this
  exact this
theorem S_mone (a b c d : Int) : S a b c d (-1) = a * b * c + b * c * d - a * b * d - a * c * d := by
  have := S_negn a b c d 1 (by omega)
  simp only [Int.pow_succ, Int.pow_zero, Int.one_mul] at this
  exact this
theorem Gr.one {a b c d : Int} (g : Gr a b c d) (h : b * c ≤ a * d) : 0 < S a b c d 1 := by
  obtain ⟨g1, g2, g3, g4⟩ := g
  rw [S_one]
  have e1 : a * (d - c) = a * d - a * c := Int.mul_sub ..
  have e2 : c * (b - a) = c * b - c * a := Int.mul_sub ..
  have e3 : c * b = b * c := Int.mul_comm ..
  have e4 : c * a = a * c := Int.mul_comm ..
  have e5 : c * (b - a) ≤ a * (d - c) := by omega
  have e6 : a * (b - a) < c * (b - a) := Int.mul_lt_mul_of_pos_right (by omega) (by omega)
  rcases Int.lt_or_le (b - a) (d - c) with z | z
  · omega
  · have := Int.mul_le_mul_of_nonneg_left z (show 0 ≤ a by omega)
    omega
theorem Gr.mone {a b c d : Int} (g : Gr a b c d) (h : a * d ≤ b * c) : 0 < S a b c d (-1) := by
  obtain ⟨g1, g2, g3, g4⟩ := g
  rw [S_mone]
  have e0 : a * (d - c) ≤ c * (b - a) := by
    have e1 : a * (d - c) = a * d - a * c := Int.mul_sub ..
    have e2 : c * (b - a) = c * b - c * a := Int.mul_sub ..
    have e3 : c * b = b * c := Int.mul_comm ..
    have e4 : c * a = a * c := Int.mul_comm ..
    omega
  have e1 : b * (a * (d - c)) ≤ b * (c * (b - a)) := Int.mul_le_mul_of_nonneg_left e0 (by omega)
  have e2 : b * (c * (b - a)) < d * (c * (b - a)) := Int.mul_lt_mul_of_pos_right (by omega) (Int.mul_pos (by omega) (by omega))
  have e3 : b * (a * (d - c)) = a * b * d - a * b * c := by rw [Int.mul_sub, Int.mul_sub]; congr 1 <;> ac_rfl
  have e4 : d * (c * (b - a)) = b * c * d - a * c * d := by rw [Int.mul_sub, Int.mul_sub]; congr 1 <;> ac_rfl
  omega
theorem up69 : (List.range 99).all (fun c => decide (2 * c ^ 69 < (c + 1) ^ 69)) = true := by decide +kernel
theorem up64 : (List.range 97).all (fun a => decide (2 * (a * (a + 1) * 99) ^ 64 < ((a + 1) * (a + 1) * 99) ^ 64 + (a * (a + 1) * (a + 1)) ^ 64) || decide (99 * a ≤ (a + 1) * (a + 1))) = true := by decide +kernel
theorem Grow.gr {a b c d : Int} (g : Grow a b c d) : Gr a b c d := ⟨by have := g.g1; omega, g.g2, g.g3, g.g4⟩
theorem ipow_le {x y : Int} (k : Nat) (hx : 0 ≤ x) (h : x ≤ y) : x ^ k ≤ y ^ k := by
  obtain ⟨x, rfl⟩ := Int.eq_ofNat_of_zero_le hx
  obtain ⟨y, rfl⟩ := Int.eq_ofNat_of_zero_le (show 0 ≤ y by omega)
  have e1 : x ^ k ≤ y ^ k := Nat.pow_le_pow_left (by omega) k
  have e3 : ((x ^ k : Nat) : Int) ≤ ((y ^ k : Nat) : Int) := by omega
  rw [Int.natCast_pow, Int.natCast_pow] at e3
  exact e3
theorem Grow.at69 {a b c d : Int} (g : Grow a b c d) : 0 < S a b c d 69 := by
  obtain ⟨g1, g2, g3, g4, g5⟩ := g
  have e := S_nat a b c d 69
  rw [show ((69 : Nat) : Int) = 69 from rfl] at e
  rw [e]
  have e1 := ipow_le 69 (show 0 ≤ b by omega) g3
  have e2 := ipow_le 69 (show 0 ≤ c + 1 by omega) (show c + 1 ≤ d by omega)
  have e3 := Int.pow_pos (m := 69) (show 0 < a by omega)
  have e4 : 2 * c ^ 69 < (c + 1) ^ 69 := by
    obtain ⟨c, rfl⟩ := Int.eq_ofNat_of_zero_le (show 0 ≤ c by omega)
    have := of_decide_eq_true (List.all_eq_true.mp up69 c (List.mem_range.mpr (by omega)))
    have e5 : ((2 * c ^ 69 : Nat) : Int) < (((c + 1) ^ 69 : Nat) : Int) := by omega
    rw [Int.natCast_mul, Int.natCast_pow, Int.natCast_pow, Int.natCast_add] at e5
    exact e5
  omega
theorem inv_ineq {X Y Z W M N : Int} (hX : 0 < X) (hXM : X < M) (hMY : M ≤ Y) (hYZ : Y ≤ Z) (hZW : Z < W) (hWN : W ≤ N) (h : 2 * X * N < M * N + X * M) : X * Y * W + X * Z * W < Y * Z * W + X * Y * Z := by
  have h1 : Y * (M - X) ≤ M * (Y - X) := by
    have e := Int.mul_le_mul_of_nonneg_right hMY (show 0 ≤ X by omega)
    rw [Int.mul_sub, Int.mul_sub, Int.mul_comm Y M]
    omega
  have h2 : M * N * (W - Z) ≤ (N - M) * (W * Z) := by
    have e1 : M * (N * W) ≤ Z * (N * W) := Int.mul_le_mul_of_nonneg_right (by omega) (Int.mul_nonneg (by omega) (by omega))
    have e2 : W * (M * Z) ≤ N * (M * Z) := Int.mul_le_mul_of_nonneg_right hWN (Int.mul_nonneg (by omega) (by omega))
    have a1 : M * N * W = M * (N * W) := by ac_rfl
    have a2 : N * (W * Z) = Z * (N * W) := by ac_rfl
    have a3 : M * (W * Z) = W * (M * Z) := by ac_rfl
    have a4 : M * N * Z = N * (M * Z) := by ac_rfl
    rw [Int.mul_sub, Int.sub_mul, a1, a2, a3, a4]
    omega
  have h3 : X * (N - M) < N * (M - X) := by
    have a1 : 2 * X * N = 2 * (X * N) := by ac_rfl
    rw [Int.mul_sub, Int.mul_sub, Int.mul_comm N M, Int.mul_comm N X]
    omega
  have hP : 0 < Z * W * Y := Int.mul_pos (Int.mul_pos (by omega) (by omega)) (by omega)
  have c1 : Z * W * N * (Y * (M - X)) ≤ Z * W * N * (M * (Y - X)) := Int.mul_le_mul_of_nonneg_left h1 (Int.mul_nonneg (Int.mul_nonneg (by omega) (by omega)) (by omega))
  have c2 : Z * W * Y * (X * (N - M)) < Z * W * Y * (N * (M - X)) := Int.mul_lt_mul_of_pos_left h3 hP
  have c3 : X * Y * (M * N * (W - Z)) ≤ X * Y * ((N - M) * (W * Z)) := Int.mul_le_mul_of_nonneg_left h2 (Int.mul_nonneg (by omega) (by omega))
  have b1 : Z * W * N * (Y * (M - X)) = Z * W * Y * (N * (M - X)) := by ac_rfl
  have b2 : X * Y * ((N - M) * (W * Z)) = Z * W * Y * (X * (N - M)) := by ac_rfl
  have b3 : X * Y * (M * N * (W - Z)) = M * N * (X * Y * (W - Z)) := by ac_rfl
  have b4 : Z * W * N * (M * (Y - X)) = M * N * (Z * W * (Y - X)) := by ac_rfl
  have c4 : M * N * (X * Y * (W - Z)) < M * N * (Z * W * (Y - X)) := by omega
  have c5 : X * Y * (W - Z) < Z * W * (Y - X) := Int.lt_of_mul_lt_mul_left c4 (Int.mul_nonneg (by omega) (by omega))
  rw [Int.mul_sub, Int.mul_sub] at c5
  have d1 : Z * W * Y = Y * Z * W := by ac_rfl
  have d2 : Z * W * X = X * Z * W := by ac_rfl
  omega
theorem Grow.at64 {a b c d : Int} (g : Grow a b c d) (h : b * c < a * d) : 0 < S a b c d (-64) := by
  obtain ⟨g1, g2, g3, g4, g5⟩ := g
  have e := S_negn a b c d 64 (by omega)
  rw [show (-((64 : Nat) : Int)) = -64 from rfl] at e
  rw [e]
  have hq : (a + 1) * (a + 1) < 99 * a := by
    have e1 : (a + 1) * (a + 1) ≤ b * c := Int.mul_le_mul (by omega) (by omega) (by omega) (by omega)
    have e2 : a * d ≤ a * 99 := Int.mul_le_mul_of_nonneg_left g5 (by omega)
    omega
  have ha : a < 97 := by
    rcases Int.lt_or_le a 97 with z | z
    · exact z
    · have e1 : (a + 1) * 98 ≤ (a + 1) * (a + 1) := Int.mul_le_mul_of_nonneg_left (by omega) (by omega)
      omega
  have hM := ipow_le 64 (show 0 ≤ a + 1 by omega) (show a + 1 ≤ b by omega)
  have hY := ipow_le 64 (show 0 ≤ b by omega) g3
  have hZ := pow_lt (k := 64) (show 0 ≤ c by omega) g4 (by omega)
  have hN := ipow_le 64 (show 0 ≤ d by omega) g5
  have hX := pow_lt (k := 64) (show 0 ≤ a by omega) (show a < a + 1 by omega) (by omega)
  have hX0 := Int.pow_pos (m := 64) (show 0 < a by omega)
  have key : 2 * (a * (a + 1) * 99) ^ 64 < ((a + 1) * (a + 1) * 99) ^ 64 + (a * (a + 1) * (a + 1)) ^ 64 := by
    obtain ⟨a, rfl⟩ := Int.eq_ofNat_of_zero_le (show 0 ≤ a by omega)
    have z := List.all_eq_true.mp up64 a (List.mem_range.mpr (by omega))
    rw [Bool.or_eq_true] at z
    rcases z with z | z
    · have z := of_decide_eq_true z
      have e5 : ((2 * (a * (a + 1) * 99) ^ 64 : Nat) : Int) < ((((a + 1) * (a + 1) * 99) ^ 64 + (a * (a + 1) * (a + 1)) ^ 64 : Nat) : Int) := by omega
      simp only [Int.natCast_mul, Int.natCast_pow, Int.natCast_add] at e5
      exact e5
    · have z := of_decide_eq_true z
      have e5 : ((99 * a : Nat) : Int) ≤ (((a + 1) * (a + 1) : Nat) : Int) := by omega
      simp only [Int.natCast_mul, Int.natCast_add] at e5
      have : (99 : Int) * (a : Int) ≤ ((a : Int) + 1) * ((a : Int) + 1) := e5
      omega
  simp only [Int.mul_pow] at key ⊢
  generalize (99 : Int) ^ 64 = N at *
  generalize (a + 1) ^ 64 = M at *
  generalize a ^ 64 = X at *
  generalize b ^ 64 = Y at *
  generalize c ^ 64 = Z at *
  generalize d ^ 64 = W at *
  have hk : 2 * X * N < M * N + X * M := by
    have k1 : M * (2 * X * N) < M * (M * N + X * M) := by
      rw [Int.mul_add]
      have a1 : M * (2 * X * N) = 2 * (X * M * N) := by ac_rfl
      have a2 : M * (M * N) = M * M * N := by ac_rfl
      have a3 : M * (X * M) = X * M * M := by ac_rfl
      omega
    exact Int.lt_of_mul_lt_mul_left k1 (by omega)
  have := inv_ineq hX0 hX hM hY hZ hN hk
  omega
theorem bs_least {neg : Int → Bool} {T : Int} (hn : ∀ m, 0 < m → m < T → neg m = true) (hp : ∀ m, T ≤ m → neg m = false) : ∀ {n : Nat} {low high : Int}, 0 ≤ low → low < T → T ≤ high → high - low ≤ 2 ^ n → bs neg n low high = T
  | 0, low, high, h0, h1, h2, h3 => by
    rw [Int.pow_zero] at h3
    rw [bs]; omega
  | n + 1, low, high, h0, h1, h2, h3 => by
    have e : (2 : Int) ^ (n + 1) = 2 * 2 ^ n := by rw [Int.pow_succ]; omega
    rw [e] at h3
    rw [bs]
    by_cases z : high - low > 1
    · rw [if_pos z]
      by_cases y : (low + high) / 2 < T
      · rw [if_pos (hn _ (by omega) y)]
        exact bs_least hn hp (by omega) y h2 (by omega)
      · rw [if_neg (by rw [hp _ (by omega)]; exact Bool.false_ne_true)]
        exact bs_least hn hp h0 h1 (by omega) (by omega)
    · rw [if_neg z]; omega
theorem first_of {f : Nat → Int} : ∀ n : Nat, (∃ T, 1 ≤ T ∧ T ≤ n ∧ (∀ p, 1 ≤ p → p < T → f p < 0) ∧ 0 ≤ f T) ∨ ∀ p, 1 ≤ p → p ≤ n → f p < 0
  | 0 => .inr fun p h1 h2 => by omega
  | n + 1 => by
    rcases first_of (f := f) n with ⟨T, h1, h2, h3, h4⟩ | h
    · exact .inl ⟨T, h1, by omega, h3, h4⟩
    · rcases Int.lt_or_le (f (n + 1)) 0 with z | z
      · refine .inr fun p h1 h2 => ?_
        rcases Nat.lt_or_ge p (n + 1) with y | y
        · exact h p h1 (by omega)
        · rw [show p = n + 1 by omega]; exact z
      · exact .inl ⟨n + 1, by omega, Nat.le_refl _, fun p h1 h2 => h p h1 (by omega), z⟩
/-- the signs with one side that turns at T -/
structure Turn (f : Int → Int) (T : Int) : Prop where
  neg : ∀ p, 0 < p → p < T → f p < 0
  here : 0 ≤ f T
  pos : ∀ p, T < p → 0 < f p
  opp : ∀ p, p < 0 → 0 < f p
theorem Grow.turn {a b c d : Int} (g : Grow a b c d) (h : a * d < b * c) : ∃ T : Int, 1 ≤ T ∧ T ≤ 69 ∧ Turn (S a b c d) T ∧ lst a b c d 1 = T := by
  rcases first_of (f := fun p => S a b c d (p : Int)) 69 with ⟨T, h1, h2, h3, h4⟩ | z
  · have t : Turn (S a b c d) (T : Int) := ⟨fun p p1 p2 => by
        have := h3 p.toNat (by omega) (by omega)
        rw [Int.toNat_of_nonneg (by omega)] at this
        exact this, h4, fun p p1 => g.gr.pos_up (by omega) p1 h4, fun p p1 => by
        rcases Int.lt_or_le p (-1) with z | z
        · exact g.gr.neg_up (by omega) z (Int.le_of_lt (g.gr.mone (by omega)))
        · rw [show p = -1 by omega]; exact g.gr.mone (by omega)⟩
    refine ⟨T, by omega, by omega, t, ?_⟩
    unfold lst
    refine bs_least (fun m m1 m2 => ?_) (fun m m1 => ?_) (by omega) (by omega) (by omega) (by omega)
    · rw [Int.one_mul]; exact decide_eq_true (t.neg m m1 m2)
    · rw [Int.one_mul]
      refine decide_eq_false ?_
      rcases Int.lt_or_eq_of_le m1 with z | z
      · have := t.pos m z; omega
      · rw [← z]; have := t.here; omega
  · have z1 := z 69 (by omega) (by omega)
    have z2 := g.at69
    have e : ((69 : Nat) : Int) = 69 := rfl
    rw [e] at z1
    omega
theorem Grow.turn' {a b c d : Int} (g : Grow a b c d) (h : b * c < a * d) : ∃ T : Int, 1 ≤ T ∧ T ≤ 64 ∧ Turn (fun p => S a b c d (-p)) T ∧ lst a b c d (-1) = T := by
  rcases first_of (f := fun p => S a b c d (-(p : Int))) 64 with ⟨T, h1, h2, h3, h4⟩ | z
  · have t : Turn (fun p => S a b c d (-p)) (T : Int) := ⟨fun p p1 p2 => by
        have := h3 p.toNat (by omega) (by omega)
        rw [Int.toNat_of_nonneg (by omega)] at this
        exact this, h4, fun p p1 => g.gr.neg_up (q := -(T : Int)) (by omega) (by omega) h4, fun p p1 => by
        rcases Int.lt_or_le p (-1) with z | z
        · exact g.gr.pos_up (q := 1) (by omega) (by omega) (Int.le_of_lt (g.gr.one (by omega)))
        · rw [show p = -1 by omega]; exact g.gr.one (by omega)⟩
    refine ⟨T, by omega, by omega, t, ?_⟩
    unfold lst
    refine bs_least (fun m m1 m2 => ?_) (fun m m1 => ?_) (by omega) (by omega) (by omega) (by omega)
    · rw [Int.neg_mul, Int.one_mul]; exact decide_eq_true (t.neg m m1 m2)
    · rw [Int.neg_mul, Int.one_mul]
      refine decide_eq_false ?_
      rcases Int.lt_or_eq_of_le m1 with z | z
      · have := t.pos m z; omega
      · rw [← z]; have := t.here; omega
  · have z1 := z 64 (by omega) (by omega)
    have z2 := g.at64 h
    have e : (-((64 : Nat) : Int)) = -64 := rfl
    rw [e] at z1
    omega
theorem Grow.flat {a b c d : Int} (g : Grow a b c d) (h : a * d = b * c) (p : Int) (hp : p ≠ 0) : 0 < S a b c d p := by
  have o := g.gr.one (by omega)
  have m := g.gr.mone (by omega)
  rcases Int.lt_trichotomy p 0 with z | z | z
  · rcases Int.lt_or_eq_of_le (show p ≤ -1 by omega) with y | y
    · exact g.gr.neg_up (by omega) y (Int.le_of_lt m)
    · rw [y]; exact m
  · exact absurd z hp
  · rcases Int.lt_or_eq_of_le (show 1 ≤ p by omega) with y | y
    · exact g.gr.pos_up (by omega) y (Int.le_of_lt o)
    · rw [← y]; exact o
def btB (a b c d p : Int) : Bool := if 0 ≤ p then decide (a * d < b * c) && ((decide (p = 0) || decide (S a b c d p < 0)) && decide (0 < S a b c d (p + 1))) else decide (b * c < a * d) && (decide (0 < S a b c d p) && (decide (p = -1) || decide (S a b c d (p + 1) < 0)))
def btD (a b c d : Int) : HD.D → Bool
  | .int p => decide (-80 ≤ p ∧ p ≤ 79) && btB a b c d p
  | _ => false
def byD (a b c d : Int) : HD.D → Bool
  | .int p => decide (-80 ≤ p ∧ p ≤ 80) && By a b c d p
  | _ => false
theorem isWi_int {f : HD.D} {lo hi : Int} (h : isWi f (some lo) (some hi) = true) : ∃ p, f = .int p ∧ lo ≤ p ∧ p ≤ hi := by
  cases f with
  | int p =>
    simp only [isWi, Bool.and_eq_true, decide_eq_true_eq] at h
    exact ⟨p, rfl, h⟩
  | _ => cases h
theorem isWi_no {f : HD.D} {lo hi : Int} (h : ¬ isWi f (some lo) (some hi) = true) (p : Int) (e : f = .int p) : ¬ (lo ≤ p ∧ p ≤ hi) := fun z => h (by
  rw [e]
  simp only [isWi]
  rw [decide_eq_true z.1, decide_eq_true z.2]
  rfl)
theorem btD_no {a b c d : Int} {f : HD.D} (h : ¬ isWi f (some (-80)) (some 79) = true) : btD a b c d f = false := by
  cases f with
  | int p => show (decide (-80 ≤ p ∧ p ≤ 79) && _) = false; rw [decide_eq_false (isWi_no h p rfl)]; rfl
  | _ => rfl
theorem byD_no {a b c d : Int} {f : HD.D} (h : ¬ isWi f (some (-80)) (some 80) = true) : byD a b c d f = false := by
  cases f with
  | int p => show (decide (-80 ≤ p ∧ p ≤ 80) && _) = false; rw [decide_eq_false (isWi_no h p rfl)]; rfl
  | _ => rfl
def spd_is_between (ds : List HD.D) (n : Nat) (Q : HD.I → Nat → Prop) (_ : HD.XD) : Prop := ∃ (a b c d : Int) (f : HD.D), ds = [.int a, .int b, .int c, .int d, f] ∧ (Grow a b c d ∧ f.tn.isSome = true) ∧ Q (.v (.bl (btD a b c d f))) n
theorem ok_is_between (T : Tx P K mg) : FnOk P w K mg base CX0 4 T.f_is_between T.fd_is_between ["a", "b", "c", "d", "low"] (HD.lift K spd_is_between) := by
  refine T.F_is_between.ok sc_is_between (fun vs H Q E h => ?_) (fun cdv A outer s H vs Q E hr h => ?_)
  · obtain ⟨cx, nn, args, Qd, Ed, hc, hsp⟩ := h
    obtain ⟨a, b, c, d, f, rfl, ⟨g, hf⟩, q⟩ := hsp
    exact hc.ra.len
  obtain ⟨cx, nn, args, Qd, Ed, hc, hsp⟩ := h
  obtain ⟨a, b, c, d, f, rfl, ⟨g, hf⟩, q⟩ := hsp
  refine ⟨_, (pss_cons (ps_if (pt_not (pt_val (pe_call (ok_is_within T) (hr.mono (by decide)) (by rfl) T.g_is_within T.F_is_within.kp T.b_is_within .nil pass0 (pa_cons (pv 4) (pa_cons (pe_un un_neg (pe_glob (by rfl) T.c_MOST_POWER T.r_MOST_POWER)) (pa_cons (pe_op op_sub (pe_glob (by rfl) T.c_MOST_POWER T.r_MOST_POWER) pe_int) pa_nil)))))) (pss_one (ps_ret pe_bl)) pss_nil)
      (pss_cons (ps_if (pt_cmpR op_ge (pv 4) pe_int (nomark _)) (pss_one (ps_ret (pe_and (pe_cmpR op_lt (pe_op op_mulU (pv 0) (pv 3)) (pe_op op_mulU (pv 1) (pv 2)) (nomark _)) (pe_and (pe_or (pe_cmpR (op_eqK (K := K) hr.units) (pv 4) pe_int (nomark _)) (pe_one (pe_cmpR op_lt (pe_call (ok_sum_at T) (hr.mono (by decide)) (by rfl) T.g_sum_at T.F_sum_at.kp T.b_sum_at .nil pass0 (pa_cons (pv 0) (pa_cons (pv 1) (pa_cons (pv 2) (pa_cons (pv 3) (pa_cons (pv 4) pa_nil)))))) pe_int (nomark _)))) (pe_one (pe_cmpR op_gt (pe_call (ok_sum_at T) (hr.mono (by decide)) (by rfl) T.g_sum_at T.F_sum_at.kp T.b_sum_at .nil pass0 (pa_cons (pv 0) (pa_cons (pv 1) (pa_cons (pv 2) (pa_cons (pv 3) (pa_cons (pe_op (op_addK (K := K)) (pv 4) pe_int) pa_nil)))))) pe_int (nomark _))))))) pss_nil)
      (pss_one (ps_ret (pe_and (pe_cmpR op_gt (pe_op op_mulU (pv 0) (pv 3)) (pe_op op_mulU (pv 1) (pv 2)) (nomark _)) (pe_and (pe_cmpR op_gt (pe_call (ok_sum_at T) (hr.mono (by decide)) (by rfl) T.g_sum_at T.F_sum_at.kp T.b_sum_at .nil pass0 (pa_cons (pv 0) (pa_cons (pv 1) (pa_cons (pv 2) (pa_cons (pv 3) (pa_cons (pv 4) pa_nil)))))) pe_int (nomark _)) (pe_one (pe_or (pe_cmpR (op_eqK (K := K) hr.units) (pv 4) (pe_un un_neg pe_int) (nomark _)) (pe_one (pe_cmpR op_lt (pe_call (ok_sum_at T) (hr.mono (by decide)) (by rfl) T.g_sum_at T.F_sum_at.kp T.b_sum_at .nil pass0 (pa_cons (pv 0) (pa_cons (pv 1) (pa_cons (pv 2) (pa_cons (pv 3) (pa_cons (pe_op (op_addK (K := K)) (pv 4) pe_int) pa_nil)))))) pe_int (nomark _))))))))))), HD.enter (ρ := [HD.S.v (.int a : HD.D), HD.S.v (.int b : HD.D), HD.S.v (.int c : HD.D), HD.S.v (.int d : HD.D), HD.S.v (f : HD.D)]) hc rfl ?_⟩
  clear hc

  have o := g.ok4
  obtain ⟨g1, g2, g3, g4, g5⟩ := id g
  fail "dr"
  refine ⟨f, some (-80), some 79, rfl, hf, ?_⟩
  by_cases hw : isWi f (some (-80)) (some 79) = true
  · obtain ⟨p, rfl, hp⟩ := isWi_int hw
    rw [hw]
    have eq : btD a b c d (.int p) = btB a b c d p := by show (decide (-80 ≤ p ∧ p ≤ 79) && _) = _; rw [decide_eq_true hp]; rfl
    rw [eq, btB] at q
    clear eq
    fail "dr"
    refine HX.ited_ (fun h => ?_) (fun h => ?_)
    · rw [if_pos (by omega)] at q
      fail "dr"
      refine HX.ited_ (fun h1 => ?_) (fun h1 => ?_)
      case refine_2 =>
        rw [decide_eq_false h1, Bool.false_and] at q
        fail "dr"
        exact q
      rw [decide_eq_true h1, Bool.true_and] at q
      fail "dr"
      refine HX.ited_ (fun h2 => ?_) (fun h2 => ?_)
      · rw [decide_eq_true h2, Bool.true_or, Bool.true_and] at q
        fail "dr"
        exact q
      rw [decide_eq_false h2, Bool.false_or] at q
      fail "dr"
      refine HX.ited_ (fun h3 => ?_) (fun h3 => ?_)
      · rw [decide_eq_true h3, Bool.true_and] at q
        fail "dr"
        exact q
      · rw [decide_eq_false h3, Bool.false_and] at q
        fail "dr"
        exact q
    · rw [if_neg (by omega)] at q
      fail "dr"
      refine HX.ited_ (fun h1 => ?_) (fun h1 => ?_)
      case refine_2 =>
        rw [decide_eq_false h1, Bool.false_and] at q
        fail "dr"
        exact q
      rw [decide_eq_true h1, Bool.true_and] at q
      fail "dr"
      refine HX.ited_ (fun h2 => ?_) (fun h2 => ?_)
      case refine_2 =>
        rw [decide_eq_false h2, Bool.false_and] at q
        fail "dr"
        exact q
      rw [decide_eq_true h2, Bool.true_and] at q
      fail "dr"
      refine HX.ited_ (fun h3 => ?_) (fun h3 => ?_)
      · rw [decide_eq_true h3, Bool.true_or] at q
        fail "dr"
        exact q
      · rw [decide_eq_false h3, Bool.false_or] at q
        fail "dr"
        exact q
  · rw [btD_no hw] at q
    rw [Bool.not_eq_true] at hw
    rw [hw]
    fail "dr"
    exact q
theorem use_is_between {a b c d : Int} {f : HD.D} {n : Nat} {Q : HD.I → Nat → Prop} {E : HD.XD} (h : Grow a b c d ∧ f.tn.isSome = true) (q : Q (.v (.bl (btD a b c d f))) n) : spd_is_between [.int a, .int b, .int c, .int d, f] n Q E := ⟨a, b, c, d, f, rfl, h, q⟩
def byP (T : Tx P K mg) (f : HD.D) : HD.D := .ins T.C_ByPower [("word", .str "bypower"), ("parts", .tup [f]), ("power", f)]
def btP (T : Tx P K mg) (f : HD.D) : HD.D := .ins T.C_Between [("word", .str "between"), ("parts", .tup [f]), ("low", f)]
/-- what is neither -/
inductive Odd (T : Tx P K mg) : HD.D → Prop
  | non : Odd T .non
  | int (i : Int) : Odd T (.int i)
  | str (x : Str) : Odd T (.str x)
  | tup (xs : List HD.D) : Odd T (.tup xs)
  | uneven (fs : List (Str × HD.D)) : Odd T (.ins T.C_Uneven fs)
  | whole (fs : List (Str × HD.D)) : Odd T (.ins T.C_Whole fs)
  | nowhole (fs : List (Str × HD.D)) : Odd T (.ins T.C_NoWhole fs)
  | paper (fs : List (Str × HD.D)) : Odd T (.ins T.C_Paper fs)
  | denial (fs : List (Str × HD.D)) : Odd T (.ins T.C_Denial fs)
def spd_shows_power (T : Tx P K mg) (ds : List HD.D) (n : Nat) (Q : HD.I → Nat → Prop) (_ : HD.XD) : Prop := ∃ (a b c d : Int) (v : HD.D), ds = [.int a, .int b, .int c, .int d, v] ∧ Grow a b c d ∧ ((∃ f, v = byP T f ∧ f.tn.isSome = true ∧ Q (.v (.bl (byD a b c d f))) n) ∨ (∃ f, v = btP T f ∧ f.tn.isSome = true ∧ Q (.v (.bl (btD a b c d f))) n) ∨ (Odd T v ∧ Q (.v (.bl false)) n))
theorem ok_shows_power (T : Tx P K mg) : FnOk P w K mg base CX0 5 T.f_shows_power T.fd_shows_power ["a", "b", "c", "d", "value"] (HD.lift K (spd_shows_power T)) := by
  refine T.F_shows_power.ok sc_shows_power (fun vs H Q E h => ?_) (fun cdv A outer s H vs Q E hr h => ?_)
  · obtain ⟨cx, nn, args, Qd, Ed, hc, hsp⟩ := h
    obtain ⟨a, b, c, d, v, rfl, g, h⟩ := hsp
    exact hc.ra.len
  obtain ⟨cx, nn, args, Qd, Ed, hc, hsp⟩ := h
  obtain ⟨a, b, c, d, v, rfl, g, h⟩ := hsp
  refine ⟨_, (pss_cons (ps_expr (pe_call (ok_need_growing T) (hr.mono (by decide)) (by rfl) T.g_need_growing T.F_need_growing.kp T.b_need_growing .nil pass0 (pa_cons (pv 0) (pa_cons (pv 1) (pa_cons (pv 2) (pa_cons (pv 3) pa_nil))))))
      (pss_cons (ps_if (pt_val (pe_callB (call_isiK' (K := K)) (by rfl) T.z_isinstance (by decide +kernel) (pa_cons (pv 4) (pa_cons (pe_glob (v := .ref T.C_ByPower) (by rfl) T.g_ByPower rfl) pa_nil)))) (pss_one (ps_ret (pe_and (pe_call (ok_is_within T) (hr.mono (by decide)) (by rfl) T.g_is_within T.F_is_within.kp T.b_is_within .nil pass0 (pa_cons (HC.pe_fldK (K := K) (pv 4)) (pa_cons (pe_un un_neg (pe_glob (by rfl) T.c_MOST_POWER T.r_MOST_POWER)) (pa_cons (pe_glob (by rfl) T.c_MOST_POWER T.r_MOST_POWER) pa_nil)))) (pe_one (pe_call (ok_holds_by T) (hr.mono (by decide)) (by rfl) T.g_holds_by T.F_holds_by.kp T.b_holds_by .nil pass0 (pa_cons (pv 0) (pa_cons (pv 1) (pa_cons (pv 2) (pa_cons (pv 3) (pa_cons (HC.pe_fldK (K := K) (pv 4)) pa_nil)))))))))) pss_nil)
      (pss_one (ps_ret (pe_and (pe_callB (call_isiK' (K := K)) (by rfl) T.z_isinstance (by decide +kernel) (pa_cons (pv 4) (pa_cons (pe_glob (v := .ref T.C_Between) (by rfl) T.g_Between rfl) pa_nil))) (pe_one (pe_call (ok_is_between T) (hr.mono (by decide)) (by rfl) T.g_is_between T.F_is_between.kp T.b_is_between .nil pass0 (pa_cons (pv 0) (pa_cons (pv 1) (pa_cons (pv 2) (pa_cons (pv 3) (pa_cons (HC.pe_fldK (K := K) (pv 4)) pa_nil)))))))))))), HD.enter (ρ := [HD.S.v (.int a : HD.D), HD.S.v (.int b : HD.D), HD.S.v (.int c : HD.D), HD.S.v (.int d : HD.D), HD.S.v (v : HD.D)]) hc rfl ?_⟩
  clear hc

  have o := g.ok4
  rcases h with ⟨f, rfl, hf, q⟩ | ⟨f, rfl, hf, q⟩ | ⟨ho, q⟩
  · unfold byP
    fail "dr"
    refine ⟨f, some (-80), some 80, rfl, hf, ?_⟩
    by_cases hw : isWi f (some (-80)) (some 80) = true
    · obtain ⟨p, rfl, hp⟩ := isWi_int hw
      rw [hw]
      have eq : byD a b c d (.int p) = By a b c d p := by show (decide (-80 ≤ p ∧ p ≤ 80) && _) = _; rw [decide_eq_true hp]; rfl
      rw [eq] at q
      clear eq
      fail "dr"
      exact q
    · rw [byD_no hw] at q
      rw [Bool.not_eq_true] at hw
      rw [hw]
      fail "dr"
      exact q
  · unfold btP
    fail "dr"
    refine use_is_between ⟨g, hf⟩ ?_
    fail "dr"
    exact q
  · cases ho
    all_goals
      fail "dr"
      exact q
theorem use_shows_by {T : Tx P K mg} {a b c d : Int} {f : HD.D} {n : Nat} {Q : HD.I → Nat → Prop} {E : HD.XD} (g : Grow a b c d) (hf : f.tn.isSome = true) (q : Q (.v (.bl (byD a b c d f))) n) : spd_shows_power T [.int a, .int b, .int c, .int d, byP T f] n Q E := ⟨a, b, c, d, _, rfl, g, .inl ⟨f, rfl, hf, q⟩⟩
theorem use_shows_bt {T : Tx P K mg} {a b c d : Int} {f : HD.D} {n : Nat} {Q : HD.I → Nat → Prop} {E : HD.XD} (g : Grow a b c d) (hf : f.tn.isSome = true) (q : Q (.v (.bl (btD a b c d f))) n) : spd_shows_power T [.int a, .int b, .int c, .int d, btP T f] n Q E := ⟨a, b, c, d, _, rfl, g, .inr (.inl ⟨f, rfl, hf, q⟩)⟩
theorem use_shows_odd {T : Tx P K mg} {a b c d : Int} {v : HD.D} {n : Nat} {Q : HD.I → Nat → Prop} {E : HD.XD} (g : Grow a b c d) (h : Odd T v) (q : Q (.v (.bl false)) n) : spd_shows_power T [.int a, .int b, .int c, .int d, v] n Q E := ⟨a, b, c, d, v, rfl, g, .inr (.inr ⟨h, q⟩)⟩
theorem ok__law_hat (T : Tx P K mg) : FnOk P w K mg base CX0 1 T.f__law_hat T.fd__law_hat ["script"] (HD.spV_hat K) := by
  refine T.F__law_hat.ok sc__law_hat (fun vs H Q E h => ?_) (fun cdv A outer s H vs Q E hr h => ?_)
  · obtain ⟨a, ns, rfl, hS, hl, q⟩ := h; rfl
  obtain ⟨a, ns, rfl, hS, hl, q⟩ := h
  refine ⟨_, (pss_one (ps_ret (pe_lst (pa_cons (pe_lc (own := [("cell", 1)]) (g := gName 1) (tt := tYes) (by rfl) sc__law_hat.nd (pi_listK (K := K) (pe_slice (sl_K (K := K)) (pv 0) po_none (po_some pe_int))) (blkOk_by (own := [("cell", 1)]) (N := n__law_hat) (sc := defScope s__law_hat) (by decide +kernel)) (fun _ _ _ _ _ => (pg_name (i := 1) sc__law_hat.nd rfl (by first | exact .inl rfl | exact .inr rfl))) (fun _ _ _ _ _ => pts_nil) (fun _ _ _ _ _ => (pe_callTy call_intU (by rfl) T.z_int (by decide +kernel) (pa_cons (pv 1) pa_nil)))) (pa_cons pe_int (pa_cons pe_int pa_nil)))))), ?_⟩
  refine HX.start_ (σ := [some (.ref a : V), none]) rfl ?_
  fail "hr"
  refine HX.slL_ hS ?_
  intro p hp
  rw [show ((60 : Int)) = ((60 : Nat) : Int) from rfl, HX.cut_to, ← List.map_take]
  refine ⟨p, rfl, ⟨_, SqL.of upd_same⟩, ?_⟩
  intro D hD
  refine HX.lcLp (xs := (ns.take 60).map V.int) id (SqL.of upd_same) hD (Nat.ble_eq_true_of_le ?_) (fun _ => rfl) (fun i x H' R hx e k => ?_) (fun H' e hL => ?_)
  · rw [List.length_map, List.length_take]; omega
  · obtain ⟨z, rfl⟩ : ∃ z, x = .int z := by
      rw [List.getElem?_map] at hx
      cases e : (ns.take 60)[i]? with
      | none => rw [e] at hx; cases hx
      | some z => rw [e] at hx; exact ⟨z, (Option.some.inj hx).symm⟩
    fail "hw"
    fail "hr"
    exact k _ (Same.refl _)
  · fail "hr"
    intro u hu
    rw [List.map_id] at hL
    have s1 : Same H H' := (HX.same_new hp).trans e
    refine q u D (ns.take 60) _ (s1.trans (HX.same_new hu)) (s1.free hu) ⟨⟨0, 0, upd_same, by omega, by omega⟩, ne_of_none hL hu, ?_, ?_⟩
    · rw [upd_ne (ne_of_none hL hu)]; exact hL
    · rw [List.length_take]; omega
theorem okV__law_lot (T : Tx P K mg) : FnOk P w K mg base CX0 1 T.f__law_lot T.fd__law_lot ["hat", "many"] HD.spV_lot := by
  refine T.F__law_lot.ok sc__law_lot (fun vs H Q E h => ?_) (fun cdv A outer s H vs Q E hr h => ?_)
  · obtain ⟨a, m, c, ns, n, rfl, hh, hn, hm, hm2, q⟩ := h; rfl
  obtain ⟨a, m, c, ns, n, rfl, hh, hn, hm, hm2, q⟩ := h
  refine ⟨_, (pss_cons (ps_if (pt_cmpR op_gt (pe_ix (ix_K (K := K)) (pv 0) pe_int (fun _ _ => rfl)) pe_int (nomark _)) (pss_cons (ps_set (i := 2) sc__law_lot.nd rfl (by first | exact .inl rfl | exact .inr rfl) (pe_op op_modU (pe_callTy call_intU (by rfl) T.z_int (by decide +kernel) (pa_cons (pe_ix (ix_K (K := K)) (pv 0) pe_int (fun _ _ => rfl)) pa_nil)) (pv 1)))
      (pss_cons (ps_asg (pe_op op_fdivU (pe_callTy call_intU (by rfl) T.z_int (by decide +kernel) (pa_cons (pe_ix (ix_K (K := K)) (pv 0) pe_int (fun _ _ => rfl)) pa_nil)) (pv 1)) (pg_sub (pv 0) pe_int set_list))
      (pss_one (ps_ret (pv 2))))) pss_nil)
      (pss_cons (ps_set (i := 3) sc__law_lot.nd rfl (by first | exact .inl rfl | exact .inr rfl) (pe_ix (ix_K (K := K)) (pv 0) pe_int (fun _ _ => rfl)))
      (pss_cons (ps_asg (pe_op (op_addK (K := K)) (pv 3) pe_int) (pg_sub (pv 0) pe_int set_list))
      (pss_cons (ps_set (i := 4) sc__law_lot.nd rfl (by first | exact .inl rfl | exact .inr rfl) (pe_op (op_addK (K := K)) (pe_op op_mulU pe_int (pv 3)) pe_int))
      (Evl.pss_cut (ps_if (pt_cmpR (op_neK (K := K) hr.units) (pe_ix (ix_K (K := K)) (pv 0) pe_int (fun _ _ => rfl)) (pe_lst pa_nil) (nomark _)) (pss_one (ps_set (i := 4) sc__law_lot.nd rfl (by first | exact .inl rfl | exact .inr rfl) (pe_ix (ix_K (K := K)) (pe_ix (ix_K (K := K)) (pv 0) pe_int (fun _ _ => rfl)) (pe_op op_modU (pe_callTy call_intU (by rfl) T.z_int (by decide +kernel) (pa_cons (pv 3) pa_nil)) (pe_callB (call_lenK (K := K)) (by rfl) T.z_len (by decide +kernel) (pa_cons (pe_ix (ix_K (K := K)) (pv 0) pe_int (fun _ _ => rfl)) pa_nil))) (fun _ _ => rfl)))) pss_nil)
      (Evl.pss_cut (ps_if (PW.pt (pw_and (pt_cmpR op_lt (pv 3) (pe_callB (call_lenK (K := K)) (by rfl) T.z_len (by decide +kernel) (pa_cons (pe_ix (ix_K (K := K)) (pv 0) pe_int (fun _ _ => rfl)) pa_nil)) (nomark _)) (pw_and1 (pt_cmpR op_ge (pe_callB call_absU (by rfl) T.z_abs (by decide +kernel) (pa_cons (pv 4) pa_nil)) (pe_op op_pow pe_int pe_int) (nomark _))))) (pss_cons (ps_set (i := 5) sc__law_lot.nd rfl (by first | exact .inl rfl | exact .inr rfl) (pe_op (op_addK (K := K)) (pe_op op_mulU pe_int (pe_op op_sub (pe_callB call_absU (by rfl) T.z_abs (by decide +kernel) (pa_cons (pv 4) pa_nil)) (pe_op op_pow pe_int pe_int))) (pe_callTy call_intU (by rfl) T.z_int (by decide +kernel) (pa_cons (pe_cmpR op_lt (pv 4) pe_int (nomark _)) pa_nil))))
      (pss_cons (ps_asg (pe_op op_fdivU (pe_callTy call_intU (by rfl) T.z_int (by decide +kernel) (pa_cons (pv 5) pa_nil)) (pv 1)) (pg_sub (pv 0) pe_int set_list))
      (pss_one (ps_ret (pe_op op_modU (pe_callTy call_intU (by rfl) T.z_int (by decide +kernel) (pa_cons (pv 5) pa_nil)) (pv 1)))))) pss_nil)
      (pss_cons (ps_set (i := 6) sc__law_lot.nd rfl (by first | exact .inl rfl | exact .inr rfl) (pe_op op_modU (pe_callTy call_intU (by rfl) T.z_int (by decide +kernel) (pa_cons (pe_op op_pow (pe_op (op_addK (K := K)) (pe_op (op_addK (K := K)) (pe_op op_modU (pe_callTy call_intU (by rfl) T.z_int (by decide +kernel) (pa_cons (pv 4) pa_nil)) pe_int) (pe_op op_mulU pe_int (pv 3))) pe_int) pe_int) pa_nil)) pe_int))
      (pss_cons (ps_set (i := 6) sc__law_lot.nd rfl (by first | exact .inl rfl | exact .inr rfl) (pe_op op_modU (pe_callTy call_intU (by rfl) T.z_int (by decide +kernel) (pa_cons (pe_op op_pow (pe_op (op_addK (K := K)) (pe_op (op_addK (K := K)) (pe_op op_mulU (pv 6) (pe_op (op_addK (K := K)) (pe_op op_mulU pe_int (pv 3)) pe_int)) (pe_op op_mulU (pe_op op_mulU pe_int (pv 3)) (pv 3))) pe_int) pe_int) pa_nil)) pe_int))
      (pss_one (ps_ret (pe_op op_modU (pe_callTy call_intU (by rfl) T.z_int (by decide +kernel) (pa_cons (pe_op op_fdivU (pv 6) pe_int) pa_nil)) (pv 1)))))))))))), ?_⟩
  refine HX.start_ (σ := [some (.ref a : V), some (.int m : V), none, none, none, none, none]) rfl ?_
  obtain ⟨⟨t, r, hA, ht0, ht1⟩, hca, hC, hle⟩ := id hh
  fail "hr"
  refine HX.ixL_ (SqL.of hA) rfl ?_
  fail "hr"
  refine HX.ited_ (fun h => ?_) (fun h => ?_)
  · fail "hr"
    refine HX.ixL_ (SqL.of hA) rfl ?_
    fail "hr"
    intro d _ hd0 hd1
    fail "hr"
    refine HX.ixL_ (SqL.of hA) rfl ?_
    fail "hr"
    refine HX.setL_ hA rfl ?_
    fail "hr"
    exact q d _ hd0 hd1 (kept_upd (Kept.refl _ _)) ⟨⟨_, _, upd_same, ht0, by omega⟩, hca, by rw [upd_ne hca]; exact hC, hle⟩
  · fail "hr"
    refine HX.ixL_ (SqL.of hA) rfl ?_
    fail "hr"
    refine HX.setL_ (j := 1) hA rfl ?_
    fail "hr"
    rw [show [V.ref c, V.int t, V.int r].set 1 (V.int (t + 1)) = [V.ref c, V.int (t + 1), V.int r] from rfl]
    have hA2 : (upd H a (.lst [V.ref c, V.int (t + 1), V.int r])) a = some (.lst [V.ref c, V.int (t + 1), V.int r]) := upd_same
    have hC2 : (upd H a (.lst [V.ref c, V.int (t + 1), V.int r])) c = some (.lst (ns.map V.int)) := by rw [upd_ne hca]; exact hC
    have hk2 : Kept a H (upd H a (.lst [V.ref c, V.int (t + 1), V.int r])) := kept_upd (Kept.refl _ _)
    generalize (upd H a (.lst [V.ref c, V.int (t + 1), V.int r])) = G at hA2 hC2 hk2 ⊢
    refine HX.cut_ (fun σ' H' => ∃ cell : Int, σ' = [some (V.ref a), some (V.int m), none, some (V.int t), some (V.int cell), none, none] ∧ Kept a H H' ∧ H' a = some (.lst [V.ref c, V.int (t + 1), V.int r]) ∧ H' c = some (.lst (ns.map V.int))) ?_ ?_
    · fail "hr"
      refine HX.ixL_ (SqL.of hA2) rfl ?_
      fail "hr"
      intro e he
      refine HX.ne_nil_ (SqL.of (by rw [upd_ne (ne_of_none hC2 he)]; exact hC2)) (SqL.of upd_same) ?_
      fail "hr"
      have hA3 : (upd G e (.lst [])) a = some (.lst [V.ref c, V.int (t + 1), V.int r]) := by rw [upd_ne (ne_of_none hA2 he)]; exact hA2
      have hC3 : (upd G e (.lst [])) c = some (.lst (ns.map V.int)) := by rw [upd_ne (ne_of_none hC2 he)]; exact hC2
      have hk3 : Kept a H (upd G e (.lst [])) := kept_new hk2 he
      generalize (upd G e (.lst [])) = G3 at hA3 hC3 hk3 ⊢
      cases hns : ns with
      | nil =>
        refine HX.iteF_ rfl ?_
        fail "hr"
        exact ⟨_, rfl, hk3, hA3, by rw [← hns]; exact hC3⟩
      | cons x xs =>
        refine HX.iteT_ rfl ?_
        rw [hns] at hC3
        fail "hr"
        refine HX.ixL_ (SqL.of hA3) rfl ?_
        fail "hr"
        refine HX.ixL_ (SqL.of hA3) rfl ?_
        fail "hr"
        refine HX.len_l_ (SqL.of hC3) ?_
        rw [List.length_map]
        refine HX.mod_ (by rw [List.length_cons]; omega) fun z _ hz0 hz1 => ?_
        obtain ⟨v, hv⟩ := HX.at_int hz0 hz1
        refine HX.ixL_ (SqL.of hC3) hv ?_
        fail "hr"
        exact ⟨_, rfl, hk3, hA3, hC3⟩
    · rintro σ' H' ⟨cell, rfl, hk, hA', hC'⟩
      have hat' : ∀ H2 r2, Kept a H' H2 → H2 a = some (.lst [V.ref c, V.int (t + 1), V.int r2]) → Hat H2 a c ns (n + 1) := fun H2 r2 k2 e2 => ⟨⟨t + 1, r2, e2, by omega, by omega⟩, hca, k2 _ _ hca hC', hle⟩
      refine HX.cut_ (fun σ2 H2 => σ2 = [some (V.ref a), some (V.int m), none, some (V.int t), some (V.int cell), none, none] ∧ H2 = H') ?_ ?_
      · fail "hr"
        refine HX.ixL_ (SqL.of hA') rfl ?_
        fail "hr"
        refine HX.len_l_ (SqL.of hC') ?_
        fail "hr"
        refine HX.ited_ (fun h1 => ?_) (fun h1 => ?_)
        · fail "hr"
          refine HX.ited_ (fun h2 => ?_) (fun h2 => ?_)
          · fail "hr"
            refine HX.setL_ (j := 2) hA' rfl ?_
            fail "hr"
            intro d _ hd0 hd1
            exact q d _ hd0 hd1 (kept_upd hk) (hat' _ _ (kept_upd (Kept.refl _ _)) upd_same)
          · fail "hr"
            exact ⟨rfl, rfl⟩
        · fail "hr"
          exact ⟨rfl, rfl⟩
      · rintro σ2 H2 ⟨rfl, rfl⟩
        fail "hr"
        intro z _ hz0 hz1
        fail "hr"
        intro y _ hy0 hy1
        fail "hr"
        have b1 := prod2_bd (x := y) (y := 2 * t + 1973) (m := 2147483647) (n := 300000) (by omega) (by omega)
        have b2 := prod2_bd (x := 69031 * t) (y := t) (m := 69031 * 100000) (n := 100000) (by omega) (by omega)
        fail "hr"
        intro x _ hx0 hx1
        fail "hr"
        intro d _ hd0 hd1
        exact q d _ hd0 hd1 hk (hat' _ _ (Kept.refl _ _) hA')
theorem ok__law_lot (T : Tx P K mg) : FnOk P w K mg base CX0 1 T.f__law_lot T.fd__law_lot ["hat", "many"] (HD.lift K HD.spd_lot) := (okV__law_lot T).imp HD.lot_bridge
local macro_rules | `(tactic| fail "du") => `(tactic| ((with_reducible refine HD.use_lot ?n ?m ?_); (case n => omega); (case m => constructor <;> omega)))
theorem ok__law_one (T : Tx P K mg) : FnOk P w K mg base CX0 2 T.f__law_one T.fd__law_one ["hat", "some"] (HD.lift K HD.spd_one) := by
  refine T.F__law_one.ok sc__law_one (fun vs H Q E h => ?_) (fun cdv A outer s H vs Q E hr h => ?_)
  · obtain ⟨cx, nn, args, Qd, Ed, hc, hsp⟩ := h
    obtain ⟨d, xs, rfl, e, hn, hl, q⟩ := hsp
    exact hc.ra.len
  obtain ⟨cx, nn, args, Qd, Ed, hc, hsp⟩ := h
  obtain ⟨d, xs, rfl, e, hn, hl, q⟩ := hsp
  refine ⟨_, (pss_one (ps_ret (pe_ix (ix_K (K := K)) (pv 1) (pe_call (ok__law_lot T) (hr.mono (by decide)) (by rfl) T.g__law_lot T.F__law_lot.kp T.b__law_lot .nil pass0 (pa_cons (pv 0) (pa_cons (pe_callB (call_lenK (K := K)) (by rfl) T.z_len (by decide +kernel) (pa_cons (pv 1) pa_nil)) pa_nil))) (fun _ _ => rfl)))), HD.enter (ρ := [HD.S.v (.hat : HD.D), HD.S.v (d : HD.D)]) hc rfl ?_⟩
  clear hc

  fail "dr"
  refine HD.len_ (xs := xs) e ?_
  fail "dr"
  intro z h0 h1
  obtain ⟨v, hv, hm⟩ := HD.atD_some h0 h1
  fail "dr"
  refine HD.ix_ (xs := xs) e hv ?_
  fail "dr"
  exact q v hm
def Four (n k : Nat) (Q : HD.I → Nat → Prop) : Prop := ∀ (a b c d : Int) (m : Nat), Grow a b c d → m ≤ n + k → Q (.o (.lst [.int a, .int b, .int c, .int d])) m
def spd__law_any (ds : List HD.D) (n : Nat) (Q : HD.I → Nat → Prop) (_ : HD.XD) : Prop := ds = [.hat] ∧ n ≤ 90000 ∧ Four n 4 Q
theorem ok__law_any (T : Tx P K mg) : FnOk P w K mg base CX0 2 T.f__law_any T.fd__law_any ["hat"] (HD.lift K spd__law_any) := by
  refine T.F__law_any.ok sc__law_any (fun vs H Q E h => ?_) (fun cdv A outer s H vs Q E hr h => ?_)
  · obtain ⟨cx, nn, args, Qd, Ed, hc, hsp⟩ := h
    obtain ⟨rfl, hn, q⟩ := hsp
    exact hc.ra.len
  obtain ⟨cx, nn, args, Qd, Ed, hc, hsp⟩ := h
  obtain ⟨rfl, hn, q⟩ := hsp
  refine ⟨_, (pss_cons (ps_set (i := 1) sc__law_any.nd rfl (by first | exact .inl rfl | exact .inr rfl) (pe_op (op_addK (K := K)) pe_int (pe_call (ok__law_lot T) (hr.mono (by decide)) (by rfl) T.g__law_lot T.F__law_lot.kp T.b__law_lot .nil pass0 (pa_cons (pv 0) (pa_cons pe_int pa_nil)))))
      (pss_cons (ps_set (i := 2) sc__law_any.nd rfl (by first | exact .inl rfl | exact .inr rfl) (pe_op (op_addK (K := K)) (pe_op (op_addK (K := K)) (pv 1) pe_int) (pe_call (ok__law_lot T) (hr.mono (by decide)) (by rfl) T.g__law_lot T.F__law_lot.kp T.b__law_lot .nil pass0 (pa_cons (pv 0) (pa_cons (pe_op op_sub pe_int (pv 1)) pa_nil)))))
      (pss_cons (ps_set (i := 3) sc__law_any.nd rfl (by first | exact .inl rfl | exact .inr rfl) (pe_op (op_addK (K := K)) (pv 2) (pe_call (ok__law_lot T) (hr.mono (by decide)) (by rfl) T.g__law_lot T.F__law_lot.kp T.b__law_lot .nil pass0 (pa_cons (pv 0) (pa_cons (pe_op op_sub pe_int (pv 2)) pa_nil)))))
      (pss_one (ps_ret (pe_lst (pa_cons (pv 1) (pa_cons (pv 2) (pa_cons (pv 3) (pa_cons (pe_op (op_addK (K := K)) (pe_op (op_addK (K := K)) (pv 3) pe_int) (pe_call (ok__law_lot T) (hr.mono (by decide)) (by rfl) T.g__law_lot T.F__law_lot.kp T.b__law_lot .nil pass0 (pa_cons (pv 0) (pa_cons (pe_op op_sub pe_int (pv 3)) pa_nil)))) pa_nil)))))))))), HD.enter (ρ := [HD.S.v (.hat : HD.D), HD.S.un, HD.S.un, HD.S.un]) hc rfl ?_⟩
  clear hc

  fail "dr"
  intro d1 _ _
  fail "dr"
  intro d2 _ _
  fail "dr"
  intro d3 _ _
  fail "dr"
  intro d4 _ _
  fail "dr"
  exact q _ _ _ _ _ ⟨by omega, by omega, by omega, by omega, by omega⟩ (by omega)
theorem use_any {n : Nat} {Q : HD.I → Nat → Prop} {E : HD.XD} (hn : n ≤ 90000) (q : Four n 4 Q) : spd__law_any [.hat] n Q E := ⟨rfl, hn, q⟩
def spd__law_grows (ds : List HD.D) (n : Nat) (Q : HD.I → Nat → Prop) (_ : HD.XD) : Prop := ∃ (a b c d : Int) (e : HD.D), ds = [e] ∧ e = .lst [.int a, .int b, .int c, .int d] ∧ ∀ r : Bool, (r = true → Grow a b c d) → Q (.v (.bl r)) n
theorem ok__law_grows (T : Tx P K mg) : FnOk P w K mg base CX0 1 T.f__law_grows T.fd__law_grows ["four"] (HD.lift K spd__law_grows) := by
  refine T.F__law_grows.ok sc__law_grows (fun vs H Q E h => ?_) (fun cdv A outer s H vs Q E hr h => ?_)
  · obtain ⟨cx, nn, args, Qd, Ed, hc, hsp⟩ := h
    obtain ⟨a, b, c, d, _, rfl, rfl, q⟩ := hsp
    exact hc.ra.len
  obtain ⟨cx, nn, args, Qd, Ed, hc, hsp⟩ := h
  obtain ⟨a, b, c, d, _, rfl, rfl, q⟩ := hsp
  refine ⟨_, (pss_cons (ps_asg (pv 0) (pg_unlK (K := K) 4 (by rfl) (pgs_cons (pg_name (i := 1) sc__law_grows.nd rfl (by first | exact .inl rfl | exact .inr rfl)) (pgs_cons (pg_name (i := 2) sc__law_grows.nd rfl (by first | exact .inl rfl | exact .inr rfl)) (pgs_cons (pg_name (i := 3) sc__law_grows.nd rfl (by first | exact .inl rfl | exact .inr rfl)) (pgs_cons (pg_name (i := 4) sc__law_grows.nd rfl (by first | exact .inl rfl | exact .inr rfl)) pgs_nil))))))
      (pss_one (ps_ret (HP.pe_chN pe_int (HP.pch_cons op_lt (pv 1) (HP.pch_cons op_lt (pv 2) (HP.pch_cons op_le (pv 3) (HP.pch_cons op_lt (pv 4) (HP.pch_last op_lt pe_int))))))))), HD.enter (ρ := [HD.S.v ((.lst [.int a, .int b, .int c, .int d]) : HD.D), HD.S.un, HD.S.un, HD.S.un, HD.S.un]) hc rfl ?_⟩
  clear hc

  fail "dr"
  refine HX.ited_ (fun h1 => ?_) (fun h1 => ?_)
  case refine_2 => exact q false (fun z => nomatch z)
  fail "dr"
  refine HX.ited_ (fun h2 => ?_) (fun h2 => ?_)
  case refine_2 => exact q false (fun z => nomatch z)
  fail "dr"
  refine HX.ited_ (fun h3 => ?_) (fun h3 => ?_)
  case refine_2 => exact q false (fun z => nomatch z)
  fail "dr"
  refine HX.ited_ (fun h4 => ?_) (fun h4 => ?_)
  case refine_2 => exact q false (fun z => nomatch z)
  fail "dr"
  exact q _ fun z => ⟨by omega, h2, h3, h4, by have := of_decide_eq_true z; omega⟩
theorem use_grows {a b c d : Int} {n : Nat} {Q : HD.I → Nat → Prop} {E : HD.XD} (q : ∀ r : Bool, (r = true → Grow a b c d) → Q (.v (.bl r)) n) : spd__law_grows [.lst [.int a, .int b, .int c, .int d]] n Q E := ⟨a, b, c, d, _, rfl, rfl, q⟩
def spd__law_planted (ds : List HD.D) (n : Nat) (Q : HD.I → Nat → Prop) (_ : HD.XD) : Prop := ds = [.hat] ∧ n ≤ 90000 ∧ ∀ (is : List Int) (m : Nat), is.length ≤ 4 → m ≤ n + 20 → Q (.o (.lst (is.map HD.D.int))) m
theorem ok__law_planted (T : Tx P K mg) : FnOk P w K mg base CX0 3 T.f__law_planted T.fd__law_planted ["hat"] (HD.lift K spd__law_planted) := by
  refine T.F__law_planted.ok sc__law_planted (fun vs H Q E h => ?_) (fun cdv A outer s H vs Q E hr h => ?_)
  · obtain ⟨cx, nn, args, Qd, Ed, hc, hsp⟩ := h
    obtain ⟨rfl, hn, q⟩ := hsp
    exact hc.ra.len
  obtain ⟨cx, nn, args, Qd, Ed, hc, hsp⟩ := h
  obtain ⟨rfl, hn, q⟩ := hsp
  refine ⟨_, (pss_cons (ps_asg (pe_tup (pa_cons (pe_call (ok__law_lot T) (hr.mono (by decide)) (by rfl) T.g__law_lot T.F__law_lot.kp T.b__law_lot .nil pass0 (pa_cons (pv 0) (pa_cons pe_int pa_nil))) (pa_cons (pe_op (op_addK (K := K)) pe_int (pe_call (ok__law_lot T) (hr.mono (by decide)) (by rfl) T.g__law_lot T.F__law_lot.kp T.b__law_lot .nil pass0 (pa_cons (pv 0) (pa_cons pe_int pa_nil)))) (pa_cons (pe_op (op_addK (K := K)) pe_int (pe_call (ok__law_lot T) (hr.mono (by decide)) (by rfl) T.g__law_lot T.F__law_lot.kp T.b__law_lot .nil pass0 (pa_cons (pv 0) (pa_cons pe_int pa_nil)))) (pa_cons (pe_call (ok__law_lot T) (hr.mono (by decide)) (by rfl) T.g__law_lot T.F__law_lot.kp T.b__law_lot .nil pass0 (pa_cons (pv 0) (pa_cons pe_int pa_nil))) pa_nil))))) (pg_tupK (K := K) 4 (by rfl) (pgs_cons (pg_name (i := 1) sc__law_planted.nd rfl (by first | exact .inl rfl | exact .inr rfl)) (pgs_cons (pg_name (i := 2) sc__law_planted.nd rfl (by first | exact .inl rfl | exact .inr rfl)) (pgs_cons (pg_name (i := 3) sc__law_planted.nd rfl (by first | exact .inl rfl | exact .inr rfl)) (pgs_cons (pg_name (i := 4) sc__law_planted.nd rfl (by first | exact .inl rfl | exact .inr rfl)) pgs_nil))))))
      (pss_cons (ps_if (pt_cmpR (op_eqK (K := K) hr.units) (pv 1) pe_int (nomark _)) (pss_one (ps_ret (pe_lst (pa_cons (pv 2) (pa_cons (pe_op (op_addK (K := K)) (pv 2) (pv 3)) (pa_cons (pe_op (op_addK (K := K)) (pe_op (op_addK (K := K)) (pv 2) (pv 3)) (pv 4)) (pa_cons (pe_op (op_addK (K := K)) (pe_op (op_addK (K := K)) (pv 2) (pe_op op_mulU pe_int (pv 3))) (pv 4)) pa_nil))))))) pss_nil)
      (pss_cons (ps_if (pt_cmpR (op_eqK (K := K) hr.units) (pv 1) pe_int (nomark _)) (pss_cons (ps_asg (pe_lc (own := [("turn", 5)]) (g := gName 5) (tt := tYes) (by rfl) sc__law_planted.nd (pi_range1 (by rfl) T.z_range (pa_cons pe_int pa_nil)) (blkOk_by (own := [("turn", 5)]) (N := n__law_planted) (sc := defScope s__law_planted) (by decide +kernel)) (fun _ _ _ _ _ => (pg_name (i := 5) sc__law_planted.nd rfl (by first | exact .inl rfl | exact .inr rfl))) (fun _ _ _ _ _ => pts_nil) (fun _ _ _ _ _ => (pe_op (op_addK (K := K)) pe_int (pe_call (ok__law_lot T) (hr.mono (by decide)) (by rfl) T.g__law_lot T.F__law_lot.kp T.b__law_lot .nil pass0 (pa_cons (pv 0) (pa_cons pe_int pa_nil)))))) (pg_unlK (K := K) 4 (by rfl) (pgs_cons (pg_name (i := 6) sc__law_planted.nd rfl (by first | exact .inl rfl | exact .inr rfl)) (pgs_cons (pg_name (i := 7) sc__law_planted.nd rfl (by first | exact .inl rfl | exact .inr rfl)) (pgs_cons (pg_name (i := 8) sc__law_planted.nd rfl (by first | exact .inl rfl | exact .inr rfl)) (pgs_cons (pg_name (i := 9) sc__law_planted.nd rfl (by first | exact .inl rfl | exact .inr rfl)) pgs_nil))))))
      (pss_cons (ps_set (i := 10) sc__law_planted.nd rfl (by first | exact .inl rfl | exact .inr rfl) (pe_callB (HC.cr_sortedK (K := K)) (by rfl) T.z_sorted (by decide +kernel) (pa_cons (pe_lst (pa_cons (pe_op op_mulU (pv 6) (pv 8)) (pa_cons (pe_op op_mulU (pe_op (op_addK (K := K)) (pv 6) (pv 7)) (pv 8)) (pa_cons (pe_op op_mulU (pv 6) (pe_op (op_addK (K := K)) (pv 8) (pv 9))) (pa_cons (pe_op op_mulU (pe_op (op_addK (K := K)) (pv 6) (pv 7)) (pe_op (op_addK (K := K)) (pv 8) (pv 9))) pa_nil))))) pa_nil)))
      (pss_one (ps_ret (pv 10))))) pss_nil)
      (pss_cons (ps_if (pt_cmpR (op_eqK (K := K) hr.units) (pv 1) pe_int (nomark _)) (pss_cons (ps_asg (pe_lc (own := [("turn", 5)]) (g := gName 5) (tt := tYes) (by rfl) sc__law_planted.nd (pi_range1 (by rfl) T.z_range (pa_cons pe_int pa_nil)) (blkOk_by (own := [("turn", 5)]) (N := n__law_planted) (sc := defScope s__law_planted) (by decide +kernel)) (fun _ _ _ _ _ => (pg_name (i := 5) sc__law_planted.nd rfl (by first | exact .inl rfl | exact .inr rfl))) (fun _ _ _ _ _ => pts_nil) (fun _ _ _ _ _ => (pe_op (op_addK (K := K)) pe_int (pe_call (ok__law_lot T) (hr.mono (by decide)) (by rfl) T.g__law_lot T.F__law_lot.kp T.b__law_lot .nil pass0 (pa_cons (pv 0) (pa_cons pe_int pa_nil)))))) (pg_unlK (K := K) 4 (by rfl) (pgs_cons (pg_name (i := 6) sc__law_planted.nd rfl (by first | exact .inl rfl | exact .inr rfl)) (pgs_cons (pg_name (i := 7) sc__law_planted.nd rfl (by first | exact .inl rfl | exact .inr rfl)) (pgs_cons (pg_name (i := 8) sc__law_planted.nd rfl (by first | exact .inl rfl | exact .inr rfl)) (pgs_cons (pg_name (i := 9) sc__law_planted.nd rfl (by first | exact .inl rfl | exact .inr rfl)) pgs_nil))))))
      (pss_one (ps_ret (pe_callB (HC.cr_sortedK (K := K)) (by rfl) T.z_sorted (by decide +kernel) (pa_cons (pe_lst (pa_cons (pe_callB call_absU (by rfl) T.z_abs (by decide +kernel) (pa_cons (pe_op op_sub (pe_op op_mulU (pv 6) (pv 7)) (pe_op op_mulU (pv 8) (pv 9))) pa_nil)) (pa_cons (pe_callB call_absU (by rfl) T.z_abs (by decide +kernel) (pa_cons (pe_op op_sub (pe_op op_mulU (pv 6) (pv 9)) (pe_op op_mulU (pv 7) (pv 8))) pa_nil)) (pa_cons (pe_op (op_addK (K := K)) (pe_op op_mulU (pv 6) (pv 7)) (pe_op op_mulU (pv 8) (pv 9))) (pa_cons (pe_op (op_addK (K := K)) (pe_op op_mulU (pv 6) (pv 9)) (pe_op op_mulU (pv 7) (pv 8))) pa_nil))))) pa_nil))))) pss_nil)
      (pss_cons (ps_if (pt_cmpR (op_eqK (K := K) hr.units) (pv 1) pe_int (nomark _)) (pss_cons (ps_asg (pe_tup (pa_cons (pe_call (ok__law_one T) (hr.mono (by decide)) (by rfl) T.g__law_one T.F__law_one.kp T.b__law_one .nil pass0 (pa_cons (pv 0) (pa_cons (pe_lst (pa_cons pe_int (pa_cons pe_int (pa_cons pe_int (pa_cons pe_int (pa_cons pe_int (pa_cons pe_int pa_nil))))))) pa_nil))) (pa_cons (pe_op (op_addK (K := K)) pe_int (pe_call (ok__law_lot T) (hr.mono (by decide)) (by rfl) T.g__law_lot T.F__law_lot.kp T.b__law_lot .nil pass0 (pa_cons (pv 0) (pa_cons pe_int pa_nil)))) (pa_cons (pe_op (op_addK (K := K)) pe_int (pe_call (ok__law_lot T) (hr.mono (by decide)) (by rfl) T.g__law_lot T.F__law_lot.kp T.b__law_lot .nil pass0 (pa_cons (pv 0) (pa_cons pe_int pa_nil)))) pa_nil)))) (pg_tupK (K := K) 3 (by rfl) (pgs_cons (pg_name (i := 11) sc__law_planted.nd rfl (by first | exact .inl rfl | exact .inr rfl)) (pgs_cons (pg_name (i := 12) sc__law_planted.nd rfl (by first | exact .inl rfl | exact .inr rfl)) (pgs_cons (pg_name (i := 13) sc__law_planted.nd rfl (by first | exact .inl rfl | exact .inr rfl)) pgs_nil)))))
      (pss_cons (ps_set (i := 10) sc__law_planted.nd rfl (by first | exact .inl rfl | exact .inr rfl) (pe_lst (pa_cons (pv 12) (pa_cons (pe_op (op_addK (K := K)) (pv 12) (pv 13)) (pa_cons (pe_op (op_addK (K := K)) (pe_op (op_addK (K := K)) (pv 12) (pv 13)) (pe_op op_mulU (pe_call (ok__law_lot T) (hr.mono (by decide)) (by rfl) T.g__law_lot T.F__law_lot.kp T.b__law_lot .nil pass0 (pa_cons (pv 0) (pa_cons pe_int pa_nil))) (pv 13))) (pa_cons (pe_op (op_addK (K := K)) (pv 12) (pe_op op_mulU pe_int (pv 13))) pa_nil))))))
      (pss_cons (ps_asg (pe_op op_sub (pe_op (op_addK (K := K)) (pe_ix (ix_K (K := K)) (pv 10) pe_int (fun _ _ => rfl)) (pe_ix (ix_K (K := K)) (pv 10) pe_int (fun _ _ => rfl))) (pe_ix (ix_K (K := K)) (pv 10) pe_int (fun _ _ => rfl))) (pg_sub (pv 10) pe_int set_list))
      (pss_one (ps_ret (pe_lc (own := [("part", 14)]) (g := gName 14) (by rfl) sc__law_planted.nd (pi_listK (K := K) (HC.pe_revK (K := K) (pv 10))) (blkOk_by (own := [("part", 14)]) (N := n__law_planted) (sc := defScope s__law_planted) (by decide +kernel)) (fun _ _ _ _ _ => (pg_name (i := 14) sc__law_planted.nd rfl (by first | exact .inl rfl | exact .inr rfl))) (fun _ _ _ _ _ => (pts_one (pt_cmpR (op_eqK (K := K) hr.units) (pe_op op_modU (pe_callTy call_intU (by rfl) T.z_int (by decide +kernel) (pa_cons (pv 11) pa_nil)) (pv 14)) pe_int (nomark _)))) (fun _ _ _ _ _ => (pe_op op_fdivU (pv 11) (pv 14))))))))) pss_nil)
      (pss_cons (ps_if (pt_cmpR (op_eqK (K := K) hr.units) (pv 1) pe_int (nomark _)) (pss_one (ps_ret (pe_lst (pa_cons pe_int (pa_cons (pe_op op_sub pe_int (pv 2)) (pa_cons (pe_op (op_addK (K := K)) (pe_op op_sub pe_int (pv 2)) (pe_op op_fdivU (pv 4) pe_int)) (pa_cons (pe_op (op_addK (K := K)) (pe_op (op_addK (K := K)) (pe_op op_sub pe_int (pv 2)) (pe_op op_fdivU (pv 4) pe_int)) (pe_op op_fdivU (pv 3) pe_int)) pa_nil))))))) pss_nil)
      (pss_one (ps_ret (pe_lst (pa_cons (pe_op op_sub pe_int (pv 2)) (pa_cons (pe_op op_sub pe_int (pv 2)) (pa_cons (pe_op (op_addK (K := K)) (pe_op op_sub pe_int (pv 2)) (pe_op op_fdivU (pv 4) pe_int)) (pa_cons (pe_op op_sub pe_int (pe_op op_fdivU (pv 3) pe_int)) pa_nil))))))))))))), HD.enter (ρ := [HD.S.v (.hat : HD.D), HD.S.un, HD.S.un, HD.S.un, HD.S.un, HD.S.un, HD.S.un, HD.S.un, HD.S.un, HD.S.un, HD.S.un, HD.S.un, HD.S.un, HD.S.un, HD.S.un]) hc rfl ?_⟩
  clear hc

  fail "dr"
  intro way w0 w1
  fail "dr"
  intro low l0 l1
  fail "dr"
  intro step s0 s1
  fail "dr"
  intro more m0 m1
  fail "dr"
  have fin : ∀ (a b c d : Int) (m : Nat), m ≤ nn + 20 → Qd (.o (.lst [.int a, .int b, .int c, .int d])) m := fun a b c d m hm => q [a, b, c, d] m (Nat.le_refl 4) hm
  refine HX.ited_ (fun h => ?_) (fun h => ?_)
  · fail "dr"
    exact fin _ _ _ _ _ (by omega)
  clear h
  fail "dr"
  refine HX.ited_ (fun h => ?_) (fun h => ?_)
  · fail "dr"
    fail "rg"
    fail "dr"
    intro k _ _
    fail "dr"
    intro m _ _
    fail "dr"
    intro n _ _
    fail "dr"
    intro o _ _
    fail "dr"
    refine HD.sorted_ (ns := [(1 + k) * (1 + n), (1 + k + (1 + m)) * (1 + n), (1 + k) * (1 + n + (1 + o)), (1 + k + (1 + m)) * (1 + n + (1 + o))]) rfl (by show 4 < 64; omega) fun ms hp _ => ?_
    fail "dr"
    exact q ms _ (by rw [hp.length_eq]; exact Nat.le_refl 4) (by omega)
  clear h
  fail "dr"
  refine HX.ited_ (fun h => ?_) (fun h => ?_)
  · fail "dr"
    fail "rg"
    fail "dr"
    intro k _ _
    fail "dr"
    intro m _ _
    fail "dr"
    intro n _ _
    fail "dr"
    intro o _ _
    fail "dr"
    refine HD.sorted_ (ns := [_, _, _, _]) rfl (by show 4 < 64; omega) fun ms hp _ => ?_
    fail "dr"
    exact q ms _ (by rw [hp.length_eq]; exact Nat.le_refl 4) (by omega)
  clear h
  fail "dr"
  refine HX.ited_ (fun h => ?_) (fun h => ?_)
  · fail "dr"
    refine HD.use_one rfl (by omega) ⟨by show 0 < 6; omega, by show 6 ≤ 1000; omega⟩ fun v hv => ?_
    obtain ⟨z, rfl, z0, z1⟩ : ∃ z : Int, v = .int z ∧ 48 ≤ z ∧ z ≤ 96 := by
      simp only [List.mem_cons, List.mem_nil_iff, or_false] at hv
      rcases hv with rfl | rfl | rfl | rfl | rfl | rfl <;> exact ⟨_, rfl, by omega, by omega⟩
    clear hv
    fail "dr"
    intro x1 _ _
    fail "dr"
    intro x2 _ _
    fail "dr"
    intro x3 x30 x31
    have hm : 0 ≤ x3 * (1 + x2) := Int.mul_nonneg x30 (by omega)
    have hm2 : x3 * (1 + x2) ≤ 1 * (1 + x2) := Int.mul_le_mul_of_nonneg_right (by omega) (by omega)
    fail "dr"
    generalize ha1 : 1 + x1 = a1
    generalize ha2 : a1 + (1 + x2) = a2
    generalize ha3 : a2 + x3 * (1 + x2) = a3
    refine HD.setL_ (m := 3) rfl rfl rfl ?_
    fail "dr"
    rw [show [HD.D.int a1, HD.D.int a2, HD.D.int a3, HD.D.int (a2 + a3 - a1)].reverse = [HD.D.int (a2 + a3 - a1), HD.D.int a3, HD.D.int a2, HD.D.int a1] from rfl]
    refine HD.CpD.inv (fun i ys ρ n => (∃ is : List Int, is.length ≤ i ∧ ys = is.map HD.D.int) ∧ ρ = _ ∧ n = _) ⟨⟨[], Nat.le_refl _, rfl⟩, rfl, rfl⟩ (fun i x ys ρ n hx hi hP => ?_) (fun ys ρ n hP => ?_)
    · obtain ⟨⟨is, hl, rfl⟩, rfl, rfl⟩ := hP
      have hx2 : ∃ y : Int, x = .int y ∧ 1 ≤ y ∧ y ≤ 1000 := by
        match i, hx with
        | 0, hx => cases hx; exact ⟨_, rfl, by omega, by omega⟩
        | 1, hx => cases hx; exact ⟨_, rfl, by omega, by omega⟩
        | 2, hx => cases hx; exact ⟨_, rfl, by omega, by omega⟩
        | 3, hx => cases hx; exact ⟨_, rfl, by omega, by omega⟩
      obtain ⟨y, rfl, hy1, hy2⟩ := hx2
      fail "dr"
      intro w _ _ _
      fail "dr"
      refine HX.ited_ (fun hq => ?_) (fun hq => ?_)
      · fail "dr"
        refine ⟨Nat.ble_eq_true_of_le (by rw [List.length_map]; have : i < 4 := hi; omega), ⟨is ++ [z / y], by rw [List.length_append]; exact Nat.succ_le_succ hl, by rw [List.map_append]; rfl⟩, rfl, rfl⟩
      · fail "dr"
        exact ⟨⟨is, by omega, rfl⟩, rfl, rfl⟩
    · obtain ⟨⟨is, hl, rfl⟩, rfl, rfl⟩ := hP
      exact q is _ hl (by omega)
  clear h
  fail "dr"
  refine HX.ited_ (fun h => ?_) (fun h => ?_)
  · fail "dr"
    exact fin _ _ _ _ _ (by omega)
  · fail "dr"
    exact fin _ _ _ _ _ (by omega)
theorem use_planted {n : Nat} {Q : HD.I → Nat → Prop} {E : HD.XD} (hn : n ≤ 90000) (q : ∀ (is : List Int) (m : Nat), is.length ≤ 4 → m ≤ n + 20 → Q (.o (.lst (is.map HD.D.int))) m) : spd__law_planted [.hat] n Q E := ⟨rfl, hn, q⟩
def spd__law_four (ds : List HD.D) (n : Nat) (Q : HD.I → Nat → Prop) (_ : HD.XD) : Prop := ds = [.hat] ∧ n ≤ 80000 ∧ ∀ (a b c d : Int) (m : Nat), Grow a b c d → m ≤ n + 30 → Q (.v (.lst [.int a, .int b, .int c, .int d])) m
theorem ok__law_four (T : Tx P K mg) : FnOk P w K mg base CX0 4 T.f__law_four T.fd__law_four ["hat"] (HD.lift K spd__law_four) := by
  refine T.F__law_four.ok sc__law_four (fun vs H Q E h => ?_) (fun cdv A outer s H vs Q E hr h => ?_)
  · obtain ⟨cx, nn, args, Qd, Ed, hc, hsp⟩ := h
    obtain ⟨rfl, hn, q⟩ := hsp
    exact hc.ra.len
  obtain ⟨cx, nn, args, Qd, Ed, hc, hsp⟩ := h
  obtain ⟨rfl, hn, q⟩ := hsp
  refine ⟨_, (pss_cons (ps_if (pt_cmpR (op_eqK (K := K) hr.units) (pe_call (ok__law_lot T) (hr.mono (by decide)) (by rfl) T.g__law_lot T.F__law_lot.kp T.b__law_lot .nil pass0 (pa_cons (pv 0) (pa_cons pe_int pa_nil))) pe_int (nomark _)) (pss_one (ps_ret (pe_call (ok__law_any T) (hr.mono (by decide)) (by rfl) T.g__law_any T.F__law_any.kp T.b__law_any .nil pass0 (pa_cons (pv 0) pa_nil)))) pss_nil)
      (pss_cons (ps_set (i := 1) sc__law_four.nd rfl (by first | exact .inl rfl | exact .inr rfl) (pe_call (ok__law_planted T) (hr.mono (by decide)) (by rfl) T.g__law_planted T.F__law_planted.kp T.b__law_planted .nil pass0 (pa_cons (pv 0) pa_nil)))
      (pss_one (ps_ret (pe_ifExp (PW.pt (pw_and (pt_cmpR (op_eqK (K := K) hr.units) (pe_callB (call_lenK (K := K)) (by rfl) T.z_len (by decide +kernel) (pa_cons (pv 1) pa_nil)) pe_int (nomark _)) (pw_and1 (pt_val (pe_call (ok__law_grows T) (hr.mono (by decide)) (by rfl) T.g__law_grows T.F__law_grows.kp T.b__law_grows .nil pass0 (pa_cons (pv 1) pa_nil)))))) (pv 1) (pe_call (ok__law_any T) (hr.mono (by decide)) (by rfl) T.g__law_any T.F__law_any.kp T.b__law_any .nil pass0 (pa_cons (pv 0) pa_nil))))))), HD.enter (ρ := [HD.S.v (.hat : HD.D), HD.S.un]) hc.w rfl ?_⟩
  clear hc

  fail "dr"
  intro d1 _ _
  fail "dr"
  refine HX.ited_ (fun h => ?_) (fun h => ?_)
  · fail "dr"
    refine use_any (by omega) fun a b c d m g hm => ?_
    exact HD.wv_ (q a b c d m g (by omega))
  fail "dr"
  refine use_planted (by omega) fun is m hl hm => ?_
  fail "dr"
  refine HX.ited_ (fun hl4 => ?_) (fun hl4 => ?_)
  · rw [List.length_map] at hl4
    have hl5 : is.length = 4 := by omega
    match is, hl5 with
    | [a, b, c, d], _ =>
    fail "dr"
    refine use_grows fun r hr' => ?_
    fail "dr"
    refine HX.iteb_ (fun hb => ?_) (fun hb => ?_)
    · fail "dr"
      exact HD.wl_ (q a b c d m (hr' hb) (by omega))
    · fail "dr"
      refine use_any (by omega) fun a b c d m g hm => ?_
      exact HD.wv_ (q a b c d m g (by omega))
  · fail "dr"
    refine use_any (by omega) fun a b c d m g hm => ?_
    exact HD.wv_ (q a b c d m g (by omega))
theorem use_four {n : Nat} {Q : HD.I → Nat → Prop} {E : HD.XD} (hn : n ≤ 80000) (q : ∀ (a b c d : Int) (m : Nat), Grow a b c d → m ≤ n + 30 → Q (.v (.lst [.int a, .int b, .int c, .int d])) m) : spd__law_four [.hat] n Q E := ⟨rfl, hn, q⟩
def spd__law_raised (ds : List HD.D) (n : Nat) (Q : HD.I → Nat → Prop) (_ : HD.XD) : Prop := ∃ (x k : Int), ds = [.int x, .int k] ∧ ((0 ≤ k ∧ k ≤ 80) ∧ (-(2 ^ 64) < x ∧ x < 2 ^ 64)) ∧ Q (.v (.int (x ^ k.toNat))) n
theorem use__law_raised {x k : Int} {n : Nat} {Q : HD.I → Nat → Prop} {E : HD.XD} (h : (0 ≤ k ∧ k ≤ 80) ∧ (-(2 ^ 64) < x ∧ x < 2 ^ 64)) (q : Q (.v (.int (x ^ k.toNat))) n) : spd__law_raised [.int x, .int k] n Q E := ⟨x, k, rfl, h, q⟩
theorem ok__law_raised (T : Tx P K mg) : FnOk P w K mg base CX0 1 T.f__law_raised T.fd__law_raised ["number", "many"] (HD.lift K spd__law_raised) := by
  refine T.F__law_raised.ok sc__law_raised (fun vs H Q E h => ?_) (fun cdv A outer s H vs Q E hr h => ?_)
  · obtain ⟨cx, nn, args, Qd, Ed, hc, hsp⟩ := h
    obtain ⟨x, k, rfl, h, q⟩ := hsp
    exact hc.ra.len
  obtain ⟨cx, nn, args, Qd, Ed, hc, hsp⟩ := h
  obtain ⟨x, k, rfl, h, q⟩ := hsp
  refine ⟨_, (pss_cons (ps_set (i := 2) sc__law_raised.nd rfl (by first | exact .inl rfl | exact .inr rfl) pe_int)
      (pss_cons (ps_for PassesOwn.never (by rfl) (pi_range1 (by rfl) T.z_range (pa_cons (pv 1) pa_nil)) (pg_name (i := 3) sc__law_raised.nd rfl (by first | exact .inl rfl | exact .inr rfl)) (pss_one (ps_set (i := 2) sc__law_raised.nd rfl (by first | exact .inl rfl | exact .inr rfl) (pe_op op_mulU (pv 2) (pv 0)))))
      (pss_one (ps_ret (pv 2))))), HD.enter (ρ := [HD.S.v (.int x : HD.D), HD.S.v (.int k : HD.D), HD.S.un, HD.S.un]) hc rfl ?_⟩
  clear hc

  obtain ⟨hk, hx⟩ := h
  fail "dr"
  refine HD.ForD.inv (fun i ρ m => m = nn ∧ ∃ y, ρ = [.v (.int x), .v (.int k), .v (.int (x ^ i)), y]) ⟨rfl, .un, by rw [Int.pow_zero]⟩ (fun i d ρ m hd hi p => ?_) (fun ρ m p => ?_)
  · obtain ⟨rfl, y, rfl⟩ := p
    fail "dr"
    exact ⟨rfl, _, by rw [Int.pow_succ]⟩
  · obtain ⟨rfl, y, rfl⟩ := p
    rw [HD.rngD_len]
    fail "dr"
    exact q
local macro_rules | `(tactic| fail "du") => `(tactic| ((with_reducible refine' use__law_raised ?h ?_); (case h => refine ⟨?_, ?_⟩ <;> first | assumption | (constructor <;> omega))))
def spd__law_sum (ds : List HD.D) (n : Nat) (Q : HD.I → Nat → Prop) (_ : HD.XD) : Prop := ∃ (a b c d p : Int), ds = [.int a, .int b, .int c, .int d, .int p] ∧ (Ok4 a b c d ∧ (-80 ≤ p ∧ p ≤ 80)) ∧ Q (.v (.int (S a b c d p))) n
theorem use__law_sum {a b c d p : Int} {n : Nat} {Q : HD.I → Nat → Prop} {E : HD.XD} (h : Ok4 a b c d ∧ (-80 ≤ p ∧ p ≤ 80)) (q : Q (.v (.int (S a b c d p))) n) : spd__law_sum [.int a, .int b, .int c, .int d, .int p] n Q E := ⟨a, b, c, d, p, rfl, h, q⟩
theorem ok__law_sum (T : Tx P K mg) : FnOk P w K mg base CX0 2 T.f__law_sum T.fd__law_sum ["a", "b", "c", "d", "power"] (HD.lift K spd__law_sum) := by
  refine T.F__law_sum.ok sc__law_sum (fun vs H Q E h => ?_) (fun cdv A outer s H vs Q E hr h => ?_)
  · obtain ⟨cx, nn, args, Qd, Ed, hc, hsp⟩ := h
    obtain ⟨a, b, c, d, p, rfl, h, q⟩ := hsp
    exact hc.ra.len
  obtain ⟨cx, nn, args, Qd, Ed, hc, hsp⟩ := h
  obtain ⟨a, b, c, d, p, rfl, h, q⟩ := hsp
  refine ⟨_, (pss_cons (ps_if (pt_cmpR op_lt (pv 4) pe_int (nomark _)) (pss_one (ps_asg (pe_tup (pa_cons (pe_op op_mulU (pe_op op_mulU (pv 1) (pv 2)) (pv 3)) (pa_cons (pe_op op_mulU (pe_op op_mulU (pv 0) (pv 2)) (pv 3)) (pa_cons (pe_op op_mulU (pe_op op_mulU (pv 0) (pv 1)) (pv 3)) (pa_cons (pe_op op_mulU (pe_op op_mulU (pv 0) (pv 1)) (pv 2)) pa_nil))))) (pg_tupK (K := K) 4 (by rfl) (pgs_cons (pg_name (i := 0) sc__law_sum.nd rfl (by first | exact .inl rfl | exact .inr rfl)) (pgs_cons (pg_name (i := 1) sc__law_sum.nd rfl (by first | exact .inl rfl | exact .inr rfl)) (pgs_cons (pg_name (i := 2) sc__law_sum.nd rfl (by first | exact .inl rfl | exact .inr rfl)) (pgs_cons (pg_name (i := 3) sc__law_sum.nd rfl (by first | exact .inl rfl | exact .inr rfl)) pgs_nil))))))) pss_nil)
      (pss_cons (ps_set (i := 5) sc__law_sum.nd rfl (by first | exact .inl rfl | exact .inr rfl) (pe_callB call_absU (by rfl) T.z_abs (by decide +kernel) (pa_cons (pv 4) pa_nil)))
      (pss_one (ps_ret (pe_op op_sub (pe_op op_sub (pe_op (op_addK (K := K)) (pe_call (ok__law_raised T) (hr.mono (by decide)) (by rfl) T.g__law_raised T.F__law_raised.kp T.b__law_raised .nil pass0 (pa_cons (pv 0) (pa_cons (pv 5) pa_nil))) (pe_call (ok__law_raised T) (hr.mono (by decide)) (by rfl) T.g__law_raised T.F__law_raised.kp T.b__law_raised .nil pass0 (pa_cons (pv 3) (pa_cons (pv 5) pa_nil)))) (pe_call (ok__law_raised T) (hr.mono (by decide)) (by rfl) T.g__law_raised T.F__law_raised.kp T.b__law_raised .nil pass0 (pa_cons (pv 1) (pa_cons (pv 5) pa_nil)))) (pe_call (ok__law_raised T) (hr.mono (by decide)) (by rfl) T.g__law_raised T.F__law_raised.kp T.b__law_raised .nil pass0 (pa_cons (pv 2) (pa_cons (pv 5) pa_nil)))))))), HD.enter (ρ := [HD.S.v (.int a : HD.D), HD.S.v (.int b : HD.D), HD.S.v (.int c : HD.D), HD.S.v (.int d : HD.D), HD.S.v (.int p : HD.D), HD.S.un]) hc rfl ?_⟩
  clear hc

  obtain ⟨⟨ha, hb, hc, hd⟩, hp⟩ := h
  have b1 := prod3_bd hb hc hd
  have b2 := prod3_bd ha hc hd
  have b3 := prod3_bd ha hb hd
  have b4 := prod3_bd ha hb hc
  fail "dr"
  refine HX.ited_ (fun h => ?_) (fun h => ?_)
  · have h2 : p < 0 := h
    rw [S_neg h2] at q
    fail "dr"
    rw [if_pos h2]
    exact q
  · have h2 : ¬ p < 0 := h
    rw [S_pos h2] at q
    fail "dr"
    rw [if_neg h2]
    exact q
local macro_rules | `(tactic| fail "du") => `(tactic| ((with_reducible refine' use__law_sum ?h ?_); (case h => first | assumption | (refine ⟨by assumption, ?_⟩; first | assumption | (constructor <;> omega)))))
def spd__law_is_by (ds : List HD.D) (n : Nat) (Q : HD.I → Nat → Prop) (_ : HD.XD) : Prop := ∃ (a b c d p : Int), ds = [.int a, .int b, .int c, .int d, .int p] ∧ (Ok4 a b c d ∧ (-80 ≤ p ∧ p ≤ 80)) ∧ Q (.v (.bl (By a b c d p))) n
theorem use__law_is_by {a b c d p : Int} {n : Nat} {Q : HD.I → Nat → Prop} {E : HD.XD} (h : Ok4 a b c d ∧ (-80 ≤ p ∧ p ≤ 80)) (q : Q (.v (.bl (By a b c d p))) n) : spd__law_is_by [.int a, .int b, .int c, .int d, .int p] n Q E := ⟨a, b, c, d, p, rfl, h, q⟩
theorem ok__law_is_by (T : Tx P K mg) : FnOk P w K mg base CX0 3 T.f__law_is_by T.fd__law_is_by ["a", "b", "c", "d", "power"] (HD.lift K spd__law_is_by) := by
  refine T.F__law_is_by.ok sc__law_is_by (fun vs H Q E h => ?_) (fun cdv A outer s H vs Q E hr h => ?_)
  · obtain ⟨cx, nn, args, Qd, Ed, hc, hsp⟩ := h
    obtain ⟨a, b, c, d, p, rfl, h, q⟩ := hsp
    exact hc.ra.len
  obtain ⟨cx, nn, args, Qd, Ed, hc, hsp⟩ := h
  obtain ⟨a, b, c, d, p, rfl, h, q⟩ := hsp
  refine ⟨_, (pss_one (ps_ret (pe_ifExp (pt_cmpR (op_eqK (K := K) hr.units) (pv 4) pe_int (nomark _)) (pe_cmpR (op_eqK (K := K) hr.units) (pe_op op_mulU (pv 0) (pv 3)) (pe_op op_mulU (pv 1) (pv 2)) (nomark _)) (pe_cmpR (op_eqK (K := K) hr.units) (pe_call (ok__law_sum T) (hr.mono (by decide)) (by rfl) T.g__law_sum T.F__law_sum.kp T.b__law_sum .nil pass0 (pa_cons (pv 0) (pa_cons (pv 1) (pa_cons (pv 2) (pa_cons (pv 3) (pa_cons (pv 4) pa_nil)))))) pe_int (nomark _))))), HD.enter (ρ := [HD.S.v (.int a : HD.D), HD.S.v (.int b : HD.D), HD.S.v (.int c : HD.D), HD.S.v (.int d : HD.D), HD.S.v (.int p : HD.D)]) hc rfl ?_⟩
  clear hc

  have bd := h.1.bd
  unfold By at q
  fail "dr"
  refine HX.ited_ (fun h1 => ?_) (fun h1 => ?_)
  · rw [if_pos h1] at q
    fail "dr"
    exact q
  · rw [if_neg h1] at q
    fail "dr"
    exact q
local macro_rules | `(tactic| fail "du") => `(tactic| ((with_reducible refine' use__law_is_by ?h ?_); (case h => first | assumption | (refine ⟨by assumption, ?_⟩; first | assumption | (constructor <;> omega)))))
def spd__law_is_whole (ds : List HD.D) (n : Nat) (Q : HD.I → Nat → Prop) (_ : HD.XD) : Prop := ∃ (d : HD.D) (lo hi : Int), ds = [d, .int lo, .int hi] ∧ d.tn.isSome = true ∧ Q (.v (.bl (isWi d (some lo) (some hi)))) n
theorem ok__law_is_whole (T : Tx P K mg) : FnOk P w K mg base CX0 1 T.f__law_is_whole T.fd__law_is_whole ["value", "least", "most"] (HD.lift K spd__law_is_whole) := by
  refine T.F__law_is_whole.ok sc__law_is_whole (fun vs H Q E h => ?_) (fun cdv A outer s H vs Q E hr h => ?_)
  · obtain ⟨cx, nn, args, Qd, Ed, hc, hsp⟩ := h
    obtain ⟨d, lo, hi, rfl, h, q⟩ := hsp
    exact hc.ra.len
  obtain ⟨cx, nn, args, Qd, Ed, hc, hsp⟩ := h
  obtain ⟨d, lo, hi, rfl, h, q⟩ := hsp
  refine ⟨_, (pss_one (ps_ret (pe_and (pe_callB (call_isiK' (K := K)) (by rfl) T.z_isinstance (by decide +kernel) (pa_cons (pv 0) (pa_cons (pe_bltn (v := .ty "int") (by rfl) T.z_int (by decide +kernel) rfl) pa_nil))) (pe_and (pe_not (pe_callB (call_isiK' (K := K)) (by rfl) T.z_isinstance (by decide +kernel) (pa_cons (pv 0) (pa_cons (pe_bltn (v := .ty "bool") (by rfl) T.z_bool (by decide +kernel) rfl) pa_nil)))) (pe_one (pe_chain op_le op_le (pv 1) (pv 0) (pv 2))))))), HD.enter (ρ := [HD.S.v (d : HD.D), HD.S.v (.int lo : HD.D), HD.S.v (.int hi : HD.D)]) hc rfl ?_⟩
  clear hc

  fail "dr"
  cases d <;> first | (simp [HD.D.tn] at h; done) | skip
  case int i =>
    fail "dr"
    have e : isWi (.int i) (some lo) (some hi) = (decide (lo ≤ i) && decide (i ≤ hi)) := rfl
    rw [e] at q
    refine HX.ited_ (fun h1 => ?_) (fun h1 => ?_)
    · rw [decide_eq_true h1, Bool.true_and] at q
      fail "dr"
      exact q
    · rw [decide_eq_false h1, Bool.false_and] at q
      fail "dr"
      exact q
  all_goals
    fail "dr"
    exact q
theorem btB_flat {a b c d p : Int} (h : a * d = b * c) : btB a b c d p = false := by
  unfold btB
  split
  · rw [decide_eq_false (show ¬ a * d < b * c by omega), Bool.false_and]
  · rw [decide_eq_false (show ¬ b * c < a * d by omega), Bool.false_and]
def spd__law_lies_between (ds : List HD.D) (n : Nat) (Q : HD.I → Nat → Prop) (_ : HD.XD) : Prop := ∃ (a b c d : Int) (f : HD.D), ds = [.int a, .int b, .int c, .int d, f] ∧ (Grow a b c d ∧ f.tn.isSome = true) ∧ Q (.v (.bl (btD a b c d f))) n
theorem ok__law_lies_between (T : Tx P K mg) : FnOk P w K mg base CX0 3 T.f__law_lies_between T.fd__law_lies_between ["a", "b", "c", "d", "low"] (HD.lift K spd__law_lies_between) := by
  refine T.F__law_lies_between.ok sc__law_lies_between (fun vs H Q E h => ?_) (fun cdv A outer s H vs Q E hr h => ?_)
  · obtain ⟨cx, nn, args, Qd, Ed, hc, hsp⟩ := h
    obtain ⟨a, b, c, d, f, rfl, ⟨g, hf⟩, q⟩ := hsp
    exact hc.ra.len
  obtain ⟨cx, nn, args, Qd, Ed, hc, hsp⟩ := h
  obtain ⟨a, b, c, d, f, rfl, ⟨g, hf⟩, q⟩ := hsp
  refine ⟨_, (pss_cons (ps_if (PW.pt (pw_or (pt_not (pt_val (pe_call (ok__law_is_whole T) (hr.mono (by decide)) (by rfl) T.g__law_is_whole T.F__law_is_whole.kp T.b__law_is_whole .nil pass0 (pa_cons (pv 4) (pa_cons (pe_un un_neg pe_int) (pa_cons pe_int pa_nil)))))) (pw_or (pt_cmpR (op_eqK (K := K) hr.units) (pe_op op_mulU (pv 0) (pv 3)) (pe_op op_mulU (pv 1) (pv 2)) (nomark _)) (pw_or1 (pt_cmpR (op_neK (K := K) hr.units) (pe_cmpR op_ge (pv 4) pe_int (nomark _)) (pe_cmpR op_lt (pe_op op_mulU (pv 0) (pv 3)) (pe_op op_mulU (pv 1) (pv 2)) (nomark _)) (nomark _)))))) (pss_one (ps_ret pe_bl)) pss_nil)
      (pss_cons (ps_asg (pe_ifExp (pt_cmpR op_ge (pv 4) pe_int (nomark _)) (pe_tup (pa_cons (pv 4) (pa_cons (pe_op (op_addK (K := K)) (pv 4) pe_int) pa_nil))) (pe_tup (pa_cons (pe_op (op_addK (K := K)) (pv 4) pe_int) (pa_cons (pv 4) pa_nil)))) (pg_tupK (K := K) 2 (by rfl) (pgs_cons (pg_name (i := 5) sc__law_lies_between.nd rfl (by first | exact .inl rfl | exact .inr rfl)) (pgs_cons (pg_name (i := 6) sc__law_lies_between.nd rfl (by first | exact .inl rfl | exact .inr rfl)) pgs_nil))))
      (pss_one (ps_ret (pe_and (pe_or (pe_cmpR (op_eqK (K := K) hr.units) (pv 5) pe_int (nomark _)) (pe_one (pe_cmpR op_lt (pe_call (ok__law_sum T) (hr.mono (by decide)) (by rfl) T.g__law_sum T.F__law_sum.kp T.b__law_sum .nil pass0 (pa_cons (pv 0) (pa_cons (pv 1) (pa_cons (pv 2) (pa_cons (pv 3) (pa_cons (pv 5) pa_nil)))))) pe_int (nomark _)))) (pe_one (pe_cmpR op_gt (pe_call (ok__law_sum T) (hr.mono (by decide)) (by rfl) T.g__law_sum T.F__law_sum.kp T.b__law_sum .nil pass0 (pa_cons (pv 0) (pa_cons (pv 1) (pa_cons (pv 2) (pa_cons (pv 3) (pa_cons (pv 6) pa_nil)))))) pe_int (nomark _)))))))), HD.enter (ρ := [HD.S.v (.int a : HD.D), HD.S.v (.int b : HD.D), HD.S.v (.int c : HD.D), HD.S.v (.int d : HD.D), HD.S.v (f : HD.D), HD.S.un, HD.S.un]) hc rfl ?_⟩
  clear hc

  have o := g.ok4
  obtain ⟨g1, g2, g3, g4, g5⟩ := id g
  fail "dr"
  refine ⟨f, -80, 79, rfl, hf, ?_⟩
  by_cases hw : isWi f (some (-80)) (some 79) = true
  · obtain ⟨p, rfl, hp⟩ := isWi_int hw
    rw [hw]
    have eq : btD a b c d (.int p) = btB a b c d p := by show (decide (-80 ≤ p ∧ p ≤ 79) && _) = _; rw [decide_eq_true hp]; rfl
    rw [eq] at q
    clear eq
    fail "dr"
    refine HX.ited_ (fun h1 => ?_) (fun h1 => ?_)
    · rw [btB_flat h1] at q
      fail "dr"
      exact q
    fail "dr"
    by_cases z : 0 ≤ p
    · by_cases y : a * d < b * c
      · rw [decide_eq_true z, decide_eq_true y]
        rw [btB, if_pos z, decide_eq_true y, Bool.true_and] at q
        refine HX.iteF_ rfl ?_
        fail "dr"
        refine HX.ited_ (fun h3 => ?_) (fun h3 => ?_)
        · rw [decide_eq_true h3, Bool.true_or, Bool.true_and] at q
          fail "dr"
          exact q
        · rw [decide_eq_false h3, Bool.false_or] at q
          fail "dr"
          refine HX.ited_ (fun h4 => ?_) (fun h4 => ?_)
          · rw [decide_eq_true h4, Bool.true_and] at q
            fail "dr"
            exact q
          · rw [decide_eq_false h4, Bool.false_and] at q
            fail "dr"
            exact q
      · rw [decide_eq_true z, decide_eq_false y]
        rw [btB, if_pos z, decide_eq_false y, Bool.false_and] at q
        refine HX.iteT_ rfl ?_
        fail "dr"
        exact q
    · by_cases y : a * d < b * c
      · rw [decide_eq_false z, decide_eq_true y]
        rw [btB, if_neg z, decide_eq_false (show ¬ b * c < a * d by omega), Bool.false_and] at q
        refine HX.iteT_ rfl ?_
        fail "dr"
        exact q
      · rw [decide_eq_false z, decide_eq_false y]
        rw [btB, if_neg z, decide_eq_true (show b * c < a * d by omega), Bool.true_and] at q
        refine HX.iteF_ rfl ?_
        fail "dr"
        refine HX.ited_ (fun h3 => ?_) (fun h3 => ?_)
        · rw [decide_eq_true (show p = -1 by omega), Bool.true_or, Bool.and_true] at q
          fail "dr"
          exact q
        · rw [decide_eq_false (show ¬ p = -1 by omega), Bool.false_or] at q
          fail "dr"
          refine HX.ited_ (fun h4 => ?_) (fun h4 => ?_)
          · rw [decide_eq_true h4, Bool.and_true] at q
            fail "dr"
            exact q
          · rw [decide_eq_false h4, Bool.and_false] at q
            fail "dr"
            exact q
  · rw [btD_no hw] at q
    rw [Bool.not_eq_true] at hw
    rw [hw]
    fail "dr"
    exact q
theorem use__law_lies_between {a b c d : Int} {f : HD.D} {n : Nat} {Q : HD.I → Nat → Prop} {E : HD.XD} (h : Grow a b c d ∧ f.tn.isSome = true) (q : Q (.v (.bl (btD a b c d f))) n) : spd__law_lies_between [.int a, .int b, .int c, .int d, f] n Q E := ⟨a, b, c, d, f, rfl, h, q⟩
def spd__law_is_power (ds : List HD.D) (n : Nat) (Q : HD.I → Nat → Prop) (_ : HD.XD) : Prop := ∃ (a b c d : Int) (f : HD.D), ds = [.int a, .int b, .int c, .int d, f] ∧ (Grow a b c d ∧ f.tn.isSome = true) ∧ Q (.v (.bl (byD a b c d f))) n
theorem ok__law_is_power (T : Tx P K mg) : FnOk P w K mg base CX0 4 T.f__law_is_power T.fd__law_is_power ["a", "b", "c", "d", "power"] (HD.lift K spd__law_is_power) := by
  refine T.F__law_is_power.ok sc__law_is_power (fun vs H Q E h => ?_) (fun cdv A outer s H vs Q E hr h => ?_)
  · obtain ⟨cx, nn, args, Qd, Ed, hc, hsp⟩ := h
    obtain ⟨a, b, c, d, f, rfl, ⟨g, hf⟩, q⟩ := hsp
    exact hc.ra.len
  obtain ⟨cx, nn, args, Qd, Ed, hc, hsp⟩ := h
  obtain ⟨a, b, c, d, f, rfl, ⟨g, hf⟩, q⟩ := hsp
  refine ⟨_, (pss_one (ps_ret (pe_and (pe_call (ok__law_is_whole T) (hr.mono (by decide)) (by rfl) T.g__law_is_whole T.F__law_is_whole.kp T.b__law_is_whole .nil pass0 (pa_cons (pv 4) (pa_cons (pe_un un_neg pe_int) (pa_cons pe_int pa_nil)))) (pe_one (pe_call (ok__law_is_by T) (hr.mono (by decide)) (by rfl) T.g__law_is_by T.F__law_is_by.kp T.b__law_is_by .nil pass0 (pa_cons (pv 0) (pa_cons (pv 1) (pa_cons (pv 2) (pa_cons (pv 3) (pa_cons (pv 4) pa_nil)))))))))), HD.enter (ρ := [HD.S.v (.int a : HD.D), HD.S.v (.int b : HD.D), HD.S.v (.int c : HD.D), HD.S.v (.int d : HD.D), HD.S.v (f : HD.D)]) hc rfl ?_⟩
  clear hc

  have o := g.ok4
  fail "dr"
  refine ⟨f, -80, 80, rfl, hf, ?_⟩
  by_cases hw : isWi f (some (-80)) (some 80) = true
  · obtain ⟨p, rfl, hp⟩ := isWi_int hw
    rw [hw]
    have eq : byD a b c d (.int p) = By a b c d p := by show (decide (-80 ≤ p ∧ p ≤ 80) && _) = _; rw [decide_eq_true hp]; rfl
    rw [eq] at q
    clear eq
    fail "dr"
    exact q
  · rw [byD_no hw] at q
    rw [Bool.not_eq_true] at hw
    rw [hw]
    fail "dr"
    exact q
theorem use__law_is_power {a b c d : Int} {f : HD.D} {n : Nat} {Q : HD.I → Nat → Prop} {E : HD.XD} (h : Grow a b c d ∧ f.tn.isSome = true) (q : Q (.v (.bl (byD a b c d f))) n) : spd__law_is_power [.int a, .int b, .int c, .int d, f] n Q E := ⟨a, b, c, d, f, rfl, h, q⟩
theorem resS_eq {a b c d s T : Int} (h : lst a b c d s = T) : resS a b c d s = if S a b c d (s * T) = 0 then (true, s * T) else (false, if s > 0 then T - 1 else -T) := by
  unfold resS
  rw [h]
theorem res_at {a b c d : Int} : (a * d = b * c → res a b c d = (true, 0)) ∧ (a * d < b * c → res a b c d = resS a b c d 1) ∧ (b * c < a * d → res a b c d = resS a b c d (-1)) := by
  refine ⟨fun h => if_pos h, fun h => ?_, fun h => ?_⟩
  · unfold res
    rw [if_neg (show ¬ a * d = b * c by omega), if_pos h]
  · unfold res
    rw [if_neg (show ¬ a * d = b * c by omega), if_neg (show ¬ a * d < b * c by omega)]
theorem By_ne {a b c d p : Int} (h : p ≠ 0) (e : S a b c d p = 0) : By a b c d p = true := by
  unfold By
  rw [if_neg h, e]
  rfl
theorem btB_pos {a b c d p : Int} (h : 0 ≤ p) : btB a b c d p = true ↔ a * d < b * c ∧ (p = 0 ∨ S a b c d p < 0) ∧ 0 < S a b c d (p + 1) := by
  unfold btB
  rw [if_pos h]
  simp only [Bool.and_eq_true, Bool.or_eq_true, decide_eq_true_eq]
theorem btB_neg {a b c d p : Int} (h : ¬ 0 ≤ p) : btB a b c d p = true ↔ b * c < a * d ∧ 0 < S a b c d p ∧ (p = -1 ∨ S a b c d (p + 1) < 0) := by
  unfold btB
  rw [if_neg h]
  simp only [Bool.and_eq_true, Bool.or_eq_true, decide_eq_true_eq]
theorem By_zero {a b c d : Int} : By a b c d 0 = decide (a * d = b * c) := if_pos rfl
theorem By_iff {a b c d p : Int} (h : p ≠ 0) : By a b c d p = true ↔ S a b c d p = 0 := by
  unfold By
  rw [if_neg h, decide_eq_true_eq]
/-- just one is so -/
theorem Grow.only {a b c d : Int} (g : Grow a b c d) : (-64 ≤ (res a b c d).2 ∧ (res a b c d).2 ≤ 68) ∧ ((res a b c d).1 = true → By a b c d (res a b c d).2 = true) ∧ ((res a b c d).1 = false → btB a b c d (res a b c d).2 = true) ∧
    (∀ p, By a b c d p = true → res a b c d = (true, p)) ∧ ∀ p, btB a b c d p = true → res a b c d = (false, p) := by
  obtain ⟨r1, r2, r3⟩ := res_at (a := a) (b := b) (c := c) (d := d)
  rcases Int.lt_trichotomy (a * d) (b * c) with h | h | h
  · obtain ⟨T, t1, t2, t, e⟩ := g.turn h
    have th := t.here
    rw [r2 h, resS_eq e, Int.one_mul]
    have hby : ∀ p, By a b c d p = true → p = T ∧ S a b c d T = 0 := fun p hp => by
      have p0 : p ≠ 0 := fun z => by rw [z, By_zero, decide_eq_true_eq] at hp; omega
      have hS := (By_iff p0).mp hp
      rcases Int.lt_trichotomy p 0 with z | z | z
      · have := t.opp p z; omega
      · exact absurd z p0
      · rcases Int.lt_trichotomy p T with y | y | y
        · have := t.neg p z y; omega
        · exact ⟨y, by rw [← y]; exact hS⟩
        · have := t.pos p y; omega
    have hbt : ∀ p, btB a b c d p = true → p = T - 1 ∧ S a b c d T ≠ 0 := fun p hp => by
      by_cases z : 0 ≤ p
      · obtain ⟨_, h2, h3⟩ := (btB_pos z).mp hp
        have hpT : p < T := by
          rcases h2 with y | y
          · omega
          · rcases Int.lt_trichotomy p T with x | x | x
            · exact x
            · rw [x] at y; omega
            · have := t.pos p x; omega
        have hpT2 : ¬ p + 1 < T := fun y => by have := t.neg (p + 1) (by omega) y; omega
        have e2 : p + 1 = T := by omega
        rw [e2] at h3
        exact ⟨by omega, by omega⟩
      · have := ((btB_neg z).mp hp).1; omega
    by_cases z : S a b c d T = 0
    · rw [if_pos z]
      have hT : T ≠ 69 := fun y => by have := g.at69; rw [y] at z; omega
      refine ⟨⟨by show -64 ≤ T; omega, by show T ≤ 68; omega⟩, fun _ => By_ne (by omega) z, (fun y => by cases y), fun p hp => by rw [(hby p hp).1], fun p hp => absurd z (hbt p hp).2⟩
    · rw [if_neg z, if_pos (show (1 : Int) > 0 by omega)]
      refine ⟨⟨by show -64 ≤ T - 1; omega, by show T - 1 ≤ 68; omega⟩, (fun y => by cases y), fun _ => ?_, fun p hp => absurd (hby p hp).2 z, fun p hp => by rw [(hbt p hp).1]⟩
      refine (btB_pos (show 0 ≤ T - 1 by omega)).mpr ⟨h, ?_, ?_⟩
      · rcases Int.lt_or_eq_of_le t1 with y | y
        · exact .inr (t.neg _ (by omega) (by omega))
        · exact .inl (by omega)
      · rw [show T - 1 + 1 = T by omega]
        omega
  · rw [r1 h]
    refine ⟨⟨by show (-64 : Int) ≤ 0; omega, by show (0 : Int) ≤ 68; omega⟩, fun _ => by rw [By_zero]; exact decide_eq_true h, (fun y => by cases y), fun p hp => ?_, fun p hp => ?_⟩
    · by_cases p0 : p = 0
      · rw [p0]
      · have := g.flat h p p0
        have := (By_iff p0).mp hp
        omega
    · by_cases z : 0 ≤ p
      · have := ((btB_pos z).mp hp).1; omega
      · have := ((btB_neg z).mp hp).1; omega
  · obtain ⟨T, t1, t2, t, e⟩ := g.turn' h
    have th : 0 ≤ S a b c d (-T) := t.here
    rw [r3 h, resS_eq e, Int.neg_mul, Int.one_mul]
    have hneg : ∀ m, 0 < m → m < T → S a b c d (-m) < 0 := t.neg
    have hpos : ∀ m, T < m → 0 < S a b c d (-m) := t.pos
    have hopp : ∀ m, m < 0 → 0 < S a b c d (-m) := t.opp
    have hby : ∀ p, By a b c d p = true → p = -T ∧ S a b c d (-T) = 0 := fun p hp => by
      have p0 : p ≠ 0 := fun z => by rw [z, By_zero, decide_eq_true_eq] at hp; omega
      have hS := (By_iff p0).mp hp
      rcases Int.lt_trichotomy p 0 with z | z | z
      · rcases Int.lt_trichotomy (-p) T with y | y | y
        · have := hneg (-p) (by omega) y; rw [Int.neg_neg] at this; omega
        · have e2 : p = -T := by omega
          exact ⟨e2, by rw [← e2]; exact hS⟩
        · have := hpos (-p) y; rw [Int.neg_neg] at this; omega
      · exact absurd z p0
      · have := hopp (-p) (by omega); rw [Int.neg_neg] at this; omega
    have hbt : ∀ p, btB a b c d p = true → p = -T ∧ S a b c d (-T) ≠ 0 := fun p hp => by
      by_cases z : 0 ≤ p
      · have := ((btB_pos z).mp hp).1; omega
      · obtain ⟨_, h2, h3⟩ := (btB_neg z).mp hp
        have h4 : ¬ -p < T := fun y => by have := hneg (-p) (by omega) y; rw [Int.neg_neg] at this; omega
        have h5 : -p ≤ T := by
          rcases h3 with y | y
          · omega
          · refine Int.not_lt.mp fun x => ?_
            have x2 : T < -(p + 1) ∨ T = -(p + 1) := by omega
            rcases x2 with x2 | x2
            · have := hpos _ x2; rw [Int.neg_neg] at this; omega
            · rw [x2, Int.neg_neg] at th; omega
        have e2 : p = -T := by omega
        rw [e2] at h2
        exact ⟨e2, by omega⟩
    by_cases z : S a b c d (-T) = 0
    · rw [if_pos z]
      refine ⟨⟨by show -64 ≤ -T; omega, by show -T ≤ 68; omega⟩, fun _ => By_ne (by omega) z, (fun y => by cases y), fun p hp => by rw [(hby p hp).1], fun p hp => absurd z (hbt p hp).2⟩
    · rw [if_neg z, if_neg (show ¬ (-1 : Int) > 0 by omega)]
      refine ⟨⟨by show -64 ≤ -T; omega, by show -T ≤ 68; omega⟩, (fun y => by cases y), fun _ => ?_, fun p hp => absurd (hby p hp).2 z, fun p hp => by rw [(hbt p hp).1]⟩
      refine (btB_neg (show ¬ 0 ≤ -T by omega)).mpr ⟨h, by omega, ?_⟩
      rcases Int.lt_or_eq_of_le t1 with y | y
      · refine .inr ?_
        have := hneg (T - 1) (by omega) (by omega)
        rw [show -T + 1 = -(T - 1) by omega]
        exact this
      · exact .inl (by omega)
theorem log_lt {n m : Nat} (h : n < 2 ^ m) (hm : 0 < m) : n.log2 < m := by
  by_cases h0 : n = 0
  · rw [h0]; exact hm
  · exact (Nat.log2_lt h0).mpr h
section
variable {K : PySem.W.Frag} {cx : HD.Wd K} {ρ : List HD.S} {n : Nat} {ds : List HD.I} {Q : HD.QI}
theorem strI_ {i : Int} (hi : i.natAbs.log2 < 1920) (h : Q (.v (.str (toString i))) ρ n) : HD.GB cx ρ n ds (fun xs H Q => ∃ i : Int, xs = [.int i] ∧ i.natAbs.log2 < 1920 ∧ Q (.str (toString i)) H) [.v (.int i)] Q := HD.reprI_ hi h
end
def valsD (p z : Int) : List HD.D := [.int p, .int (p + 1), .int (p - 1), .int (-p), .int (-p - 1), .int (p + 2), .int 0, .int (-1), .int 1, .int (z - 80), .int 80, .int (-80), .int (-81), .int 81, .int (10 ^ Int.toNat 30), .int (-10 ^ Int.toNat 30), .bl true, .bl false, .non, .str (toString p), .lst [.int p], .tup [.int p, .int (p + 1)]]
def spd__law_values (ds : List HD.D) (n : Nat) (Q : HD.I → Nat → Prop) (_ : HD.XD) : Prop := ∃ p : Int, ds = [.hat, .int p] ∧ (-80 ≤ p ∧ p ≤ 80) ∧ n ≤ 90000 ∧ ∀ z : Int, Q (.v (.lst (valsD p z))) (n + 1)
theorem ok__law_values (T : Tx P K mg) : FnOk P w K mg base CX0 2 T.f__law_values T.fd__law_values ["hat", "at"] (HD.lift K spd__law_values) := by
  refine T.F__law_values.ok sc__law_values (fun vs H Q E h => ?_) (fun cdv A outer s H vs Q E hr h => ?_)
  · obtain ⟨cx, nn, args, Qd, Ed, hc, hsp⟩ := h
    obtain ⟨p, rfl, hp, hn, q⟩ := hsp
    exact hc.ra.len
  obtain ⟨cx, nn, args, Qd, Ed, hc, hsp⟩ := h
  obtain ⟨p, rfl, hp, hn, q⟩ := hsp
  refine ⟨_, (pss_cons (ps_set (i := 2) sc__law_values.nd rfl (by first | exact .inl rfl | exact .inr rfl) (pe_lst (pa_cons (pv 1) (pa_cons (pe_op (op_addK (K := K)) (pv 1) pe_int) (pa_cons (pe_op op_sub (pv 1) pe_int) (pa_cons (pe_un un_neg (pv 1)) (pa_cons (pe_op op_sub (pe_un un_neg (pv 1)) pe_int) (pa_cons (pe_op (op_addK (K := K)) (pv 1) pe_int) (pa_cons pe_int (pa_cons (pe_un un_neg pe_int) (pa_cons pe_int (pa_cons (pe_op op_sub (pe_call (ok__law_lot T) (hr.mono (by decide)) (by rfl) T.g__law_lot T.F__law_lot.kp T.b__law_lot .nil pass0 (pa_cons (pv 0) (pa_cons pe_int pa_nil))) pe_int) (pa_cons pe_int (pa_cons (pe_un un_neg pe_int) (pa_cons (pe_un un_neg pe_int) (pa_cons pe_int pa_nil))))))))))))))))
      (pss_one (ps_ret (pe_op (op_addK (K := K)) (pv 2) (pe_lst (pa_cons (pe_op op_pow pe_int pe_int) (pa_cons (pe_un un_neg (pe_op op_pow pe_int pe_int)) (pa_cons pe_bl (pa_cons pe_bl (pa_cons pe_non (pa_cons (pe_callTy call_str_int (by rfl) T.z_str (by decide +kernel) (pa_cons (pv 1) pa_nil)) (pa_cons (pe_lst (pa_cons (pv 1) pa_nil)) (pa_cons (pe_tup (pa_cons (pv 1) (pa_cons (pe_op (op_addK (K := K)) (pv 1) pe_int) pa_nil))) pa_nil))))))))))))), HD.enter (ρ := [HD.S.v (.hat : HD.D), HD.S.v (.int p : HD.D), HD.S.un]) hc.w rfl ?_⟩
  clear hc

  fail "dr"
  intro z _ _
  fail "dr"
  refine strI_ (log_lt (Nat.lt_of_lt_of_le (show p.natAbs < 2 ^ 21 by omega) (Nat.pow_le_pow_right (by omega) (by omega))) (by omega)) ?_
  fail "dr"
  refine HD.addL_ rfl rfl (by show 14 + 8 ≤ 100000; omega) ?_
  fail "dr"
  exact HD.wv_ (q z)
theorem use__law_values {p : Int} {n : Nat} {Q : HD.I → Nat → Prop} {E : HD.XD} (hp : -80 ≤ p ∧ p ≤ 80) (hn : n ≤ 90000) (q : ∀ z : Int, Q (.v (.lst (valsD p z))) (n + 1)) : spd__law_values [.hat, .int p] n Q E := ⟨p, rfl, hp, hn, q⟩
/-- what any of the values is -/
theorem vals_ok {p z : Int} {v : HD.D} (h : v ∈ valsD p z) : HD.okF 1 v = true ∧ v.tn.isSome = true ∧ v.fix.tn.isSome = true ∧ (∀ a b c d, btD a b c d v.fix = btD a b c d v) ∧ ∀ a b c d, byD a b c d v.fix = byD a b c d v := by
  unfold valsD at h
  simp only [List.mem_cons, List.mem_nil_iff, or_false] at h
  rcases h with rfl | rfl | rfl | rfl | rfl | rfl | rfl | rfl | rfl | rfl | rfl | rfl | rfl | rfl | rfl | rfl | rfl | rfl | rfl | rfl | rfl | rfl <;> exact ⟨rfl, rfl, rfl, fun _ _ _ _ => rfl, fun _ _ _ _ => rfl⟩
theorem vals_at {p z : Int} {i : Nat} (h : i < 5) : ∃ v, atI (valsD p z) (0 + (i : Int)) = some v ∧ v ∈ valsD p z ∧ (i = 0 → v = .int p) := by
  match i, h with
  | 0, _ => exact ⟨_, rfl, List.mem_of_getElem? (i := 0) rfl, fun _ => rfl⟩
  | 1, _ => exact ⟨_, rfl, List.mem_of_getElem? (i := 1) rfl, fun e => nomatch e⟩
  | 2, _ => exact ⟨_, rfl, List.mem_of_getElem? (i := 2) rfl, fun e => nomatch e⟩
  | 3, _ => exact ⟨_, rfl, List.mem_of_getElem? (i := 3) rfl, fun e => nomatch e⟩
  | 4, _ => exact ⟨_, rfl, List.mem_of_getElem? (i := 4) rfl, fun e => nomatch e⟩
def sp_law (K : PySem.W.Frag) : Sp := fun vs H Q _ => ∃ (a : Addr) (ns : List Int), vs = [.ref a] ∧ SqL K H a (ns.map V.int) ∧ ns.length ≤ 63 ∧ ∀ H', Q (.bl true) H'
local macro_rules | `(tactic| fail "gE") => `(tactic| (with_reducible refine HTs.sortSetE_ ?_))
theorem btD_int {a b c d : Int} {v : HD.D} (h : btD a b c d v = true) : ∃ q, v = .int q ∧ btB a b c d q = true := by
  cases v with
  | int q => exact ⟨q, rfl, by have : (decide (-80 ≤ q ∧ q ≤ 79) && btB a b c d q) = true := h; rw [Bool.and_eq_true] at this; exact this.2⟩
  | _ => cases h
theorem byD_int {a b c d : Int} {v : HD.D} (h : byD a b c d v = true) : ∃ q, v = .int q ∧ By a b c d q = true := by
  cases v with
  | int q => exact ⟨q, rfl, by have : (decide (-80 ≤ q ∧ q ≤ 80) && By a b c d q) = true := h; rw [Bool.and_eq_true] at this; exact this.2⟩
  | _ => cases h
theorem Grow.facts {a b c d p : Int} {bb : Bool} (g : Grow a b c d) (e : res a b c d = (bb, p)) : (-64 ≤ p ∧ p ≤ 68) ∧ (bb = true → byD a b c d (.int p) = true) ∧ (bb = false → btD a b c d (.int p) = true) ∧ (∀ v, byD a b c d v = true → v = .int p ∧ bb = true) ∧ ∀ v, btD a b c d v = true → v = .int p ∧ bb = false := by
  obtain ⟨h1, h2, h3, h4, h5⟩ := g.only
  rw [e] at h1 h2 h3
  dsimp only at h1 h2 h3
  refine ⟨h1, fun z => ?_, fun z => ?_, fun v hv => ?_, fun v hv => ?_⟩
  · show (decide (-80 ≤ p ∧ p ≤ 80) && _) = true
    rw [decide_eq_true (show -80 ≤ p ∧ p ≤ 80 by omega), h2 z]
    rfl
  · show (decide (-80 ≤ p ∧ p ≤ 79) && _) = true
    rw [decide_eq_true (show -80 ≤ p ∧ p ≤ 79 by omega), h3 z]
    rfl
  · obtain ⟨q, rfl, hq⟩ := byD_int hv
    have := h4 q hq
    rw [e] at this
    cases this
    exact ⟨rfl, rfl⟩
  · obtain ⟨q, rfl, hq⟩ := btD_int hv
    have := h5 q hq
    rw [e] at this
    cases this
    exact ⟨rfl, rfl⟩
theorem ok_law (T : Tx P K mg) : FnOk P w K mg base CX0 8 T.f_law T.fd_law ["script"] (sp_law K) := by
  refine T.F_law.ok sc_law (fun vs H Q E h => ?_) (fun cdv A outer s H vs Q E hr h => ?_)
  · obtain ⟨s0, ns0, rfl, hS, hl, q⟩ := h; rfl
  obtain ⟨s0, ns0, rfl, hS, hl, q⟩ := h
  refine ⟨_, (pss_cons (ps_set (i := 1) sc_law.nd rfl (by first | exact .inl rfl | exact .inr rfl) (pe_call (ok__law_hat T) (hr.mono (by decide)) (by rfl) T.g__law_hat T.F__law_hat.kp T.b__law_hat .nil pass0 (pa_cons (pv 0) pa_nil)))
      (pss_cons (ps_for PassesOwn.never (by rfl) (pi_range1 (by rfl) T.z_range (pa_cons pe_int pa_nil)) (pg_name (i := 2) sc_law.nd rfl (by first | exact .inl rfl | exact .inr rfl)) (pss_cons (ps_asg (pe_call (ok__law_four T) (hr.mono (by decide)) (by rfl) T.g__law_four T.F__law_four.kp T.b__law_four .nil pass0 (pa_cons (pv 1) pa_nil)) (pg_unlK (K := K) 4 (by rfl) (pgs_cons (pg_name (i := 3) sc_law.nd rfl (by first | exact .inl rfl | exact .inr rfl)) (pgs_cons (pg_name (i := 4) sc_law.nd rfl (by first | exact .inl rfl | exact .inr rfl)) (pgs_cons (pg_name (i := 5) sc_law.nd rfl (by first | exact .inl rfl | exact .inr rfl)) (pgs_cons (pg_name (i := 6) sc_law.nd rfl (by first | exact .inl rfl | exact .inr rfl)) pgs_nil))))))
      (pss_cons (ps_set (i := 7) sc_law.nd rfl (by first | exact .inl rfl | exact .inr rfl) (pe_call (ok_power_of T) (hr.mono (by decide)) (by rfl) T.g_power_of T.F_power_of.kp T.b_power_of .nil pass0 (pa_cons (pv 3) (pa_cons (pv 4) (pa_cons (pv 5) (pa_cons (pv 6) pa_nil))))))
      (pss_cons (ps_set (i := 8) sc_law.nd rfl (by first | exact .inl rfl | exact .inr rfl) (pe_ifExp (pt_val (pe_callB (call_isiK' (K := K)) (by rfl) T.z_isinstance (by decide +kernel) (pa_cons (pv 7) (pa_cons (pe_glob (v := .ref T.C_ByPower) (by rfl) T.g_ByPower rfl) pa_nil)))) (HC.pe_fldK (K := K) (pv 7)) (HC.pe_fldK (K := K) (pv 7))))
      (pss_cons (ps_par (i := 9) (j := 10) (by rfl) sc_law.nd rfl rfl (by decide) rfl rfl (pa_cons (pe_call (ok__law_values T) (hr.mono (by decide)) (by rfl) T.g__law_values T.F__law_values.kp T.b__law_values .nil pass0 (pa_cons (pv 1) (pa_cons (pv 8) pa_nil))) (pa_cons (pe_lst pa_nil) pa_nil)) (by rfl))
      (pss_cons (ps_for PassesOwn.never (by rfl) (pi_range1 (by rfl) T.z_range (pa_cons pe_int pa_nil)) (pg_name (i := 11) sc_law.nd rfl (by first | exact .inl rfl | exact .inr rfl)) (pss_cons (ps_set (i := 12) sc_law.nd rfl (by first | exact .inl rfl | exact .inr rfl) (pe_ifExp (pt_cmpR op_lt (pv 11) pe_int (nomark _)) (pe_ix (ix_K (K := K)) (pv 9) (pv 11) (fun _ _ => rfl)) (pe_call (ok__law_one T) (hr.mono (by decide)) (by rfl) T.g__law_one T.F__law_one.kp T.b__law_one .nil pass0 (pa_cons (pv 1) (pa_cons (pv 9) pa_nil)))))
      (pss_cons (ps_par (i := 13) (j := 14) (by rfl) sc_law.nd rfl rfl (by decide) rfl rfl (pa_cons (pe_call (ok__law_lies_between T) (hr.mono (by decide)) (by rfl) T.g__law_lies_between T.F__law_lies_between.kp T.b__law_lies_between .nil pass0 (pa_cons (pv 3) (pa_cons (pv 4) (pa_cons (pv 5) (pa_cons (pv 6) (pa_cons (pv 12) pa_nil)))))) (pa_cons (pe_call (ok__law_is_power T) (hr.mono (by decide)) (by rfl) T.g__law_is_power T.F__law_is_power.kp T.b__law_is_power .nil pass0 (pa_cons (pv 3) (pa_cons (pv 4) (pa_cons (pv 5) (pa_cons (pv 6) (pa_cons (pv 12) pa_nil)))))) pa_nil)) (by rfl))
      (pss_cons (ps_if (PW.pt (pw_or (pt_cmpR (op_neK (K := K) hr.units) (pe_call (ok_shows_power T) (hr.mono (by decide)) (by rfl) T.g_shows_power T.F_shows_power.kp T.b_shows_power .nil pass0 (pa_cons (pv 3) (pa_cons (pv 4) (pa_cons (pv 5) (pa_cons (pv 6) (pa_cons (StX.pe_makeR T.mk_Between (ok_Between_init T) (hr.mono (by decide)) (by rfl) T.g_Between pass0 (pa_cons (pv 12) pa_nil)) pa_nil)))))) (pv 13) (nomark _)) (pw_or1 (pt_cmpR (op_neK (K := K) hr.units) (pe_call (ok_shows_power T) (hr.mono (by decide)) (by rfl) T.g_shows_power T.F_shows_power.kp T.b_shows_power .nil pass0 (pa_cons (pv 3) (pa_cons (pv 4) (pa_cons (pv 5) (pa_cons (pv 6) (pa_cons (StX.pe_makeR T.mk_ByPower (ok_ByPower_init T) (hr.mono (by decide)) (by rfl) T.g_ByPower pass0 (pa_cons (pv 12) pa_nil)) pa_nil)))))) (pv 14) (nomark _))))) (pss_one (ps_ret pe_bl)) pss_nil)
      (pss_one (ps_if (PW.pt (pw_or (pt_val (pv 13)) (pw_or1 (pt_val (pv 14))))) (pss_one (ps_expr (HD.pe_bmK (K := K) PySem.F.plainAttrs_list PySem.F.slot_list_append PySem.F.type_list_append mt_append (pv 10) (pa_cons (pe_tup (pa_cons (pv 13) (pa_cons (pv 12) pa_nil))) pa_nil)))) pss_nil))))))
      (pss_cons (ps_if (PW.pt (pw_or (pt_cmpR (op_neK (K := K) hr.units) (pe_callB (call_lenK (K := K)) (by rfl) T.z_len (by decide +kernel) (pa_cons (pe_callB (HTs.call_sortE (K := K) (by rfl)) (by rfl) T.z_sorted (by decide +kernel) (pa_cons (pe_callTy (HTs.call_setE (K := K) (by rfl) (Nat.lt_of_succ_lt (HY.units65 hr))) (by rfl) T.z_set (by decide +kernel) (pa_cons (pv 10) pa_nil)) pa_nil)) pa_nil)) pe_int (nomark _)) (pw_or1 (pt_cmpR HD.op_notU (HB.pe_callK0 (ok_shows_power T) (hr.mono (by decide)) (by rfl) T.g_shows_power T.F_shows_power.kp T.kb_shows_power_value_a_b_c_d pass0 (pk_cons (pv 7) (pk_cons (pv 3) (pk_cons (pv 4) (pk_cons (pv 5) (pk_cons (pv 6) pk_nil)))))) pe_bl (nomark _))))) (pss_one (ps_ret pe_bl)) pss_nil)
      (pss_cons (ps_set (i := 15) sc_law.nd rfl (by first | exact .inl rfl | exact .inr rfl) (pe_lst (pa_cons pe_non (pa_cons pe_int (pa_cons (pv 8) (pa_cons (pe_tup (pa_cons (pv 8) pa_nil)) (pa_cons pe_str (pa_cons (StX.pe_makeR T.mk_Uneven (ok_Uneven_init T) (hr.mono (by decide)) (by rfl) T.g_Uneven pass0 (pa_cons pe_int pa_nil)) (pa_cons (StX.pe_makeR T.mk_Whole (ok_Whole_init T) (hr.mono (by decide)) (by rfl) T.g_Whole pass0 (pa_cons (pv 8) pa_nil)) (pa_cons (StX.pe_makeR T.mk_NoWhole (ok_NoWhole_init T) (hr.mono (by decide)) (by rfl) T.g_NoWhole pass0 (pa_cons (pv 8) pa_nil)) (pa_cons (StX.pe_makeR T.mk_Paper (okC_Paper_init T T.pc_Paper) (hr.mono (by decide)) (by rfl) T.g_Paper pass0 (pa_cons pe_str (pa_cons (pv 8) pa_nil))) (pa_cons (StX.pe_makeR T.mk_Denial (okC_Paper_init T T.pc_Denial) (hr.mono (by decide)) (by rfl) T.g_Denial pass0 (pa_cons pe_str (pa_cons (pv 8) pa_nil))) (pa_cons (HC.pe_fldK (K := K) (pv 7)) pa_nil)))))))))))))
      (pss_one (ps_if (PW.pt (pw_or (pt_cmpR HD.op_notU (pe_call (ok_shows_power T) (hr.mono (by decide)) (by rfl) T.g_shows_power T.F_shows_power.kp T.b_shows_power .nil pass0 (pa_cons (pv 3) (pa_cons (pv 4) (pa_cons (pv 5) (pa_cons (pv 6) (pa_cons (pe_call (ok__law_one T) (hr.mono (by decide)) (by rfl) T.g__law_one T.F__law_one.kp T.b__law_one .nil pass0 (pa_cons (pv 1) (pa_cons (pv 15) pa_nil))) pa_nil)))))) pe_bl (nomark _)) (pw_or1 (pt_cmpR HD.op_notU (pe_call (ok_shows_power T) (hr.mono (by decide)) (by rfl) T.g_shows_power T.F_shows_power.kp T.b_shows_power .nil pass0 (pa_cons (pv 3) (pa_cons (pv 4) (pa_cons (pv 5) (pa_cons (pv 6) (pa_cons (pe_call (ok__law_one T) (hr.mono (by decide)) (by rfl) T.g__law_one T.F__law_one.kp T.b__law_one .nil pass0 (pa_cons (pv 1) (pa_cons (pv 15) pa_nil))) pa_nil)))))) pe_bl (nomark _))))) (pss_one (ps_ret pe_bl)) pss_nil))))))))))
      (pss_one (ps_ret pe_bl)))), ?_⟩
  refine HX.start_ (σ := [some (.ref s0 : V), none, none, none, none, none, none, none, none, none, none, none, none, none, none, none]) rfl ?_
  fail "hr"
  refine ⟨s0, ns0, rfl, hS, hl, fun g k ns H0 e0 hg hh0 => ?_⟩
  with_reducible refine HX.gnS_ ?_
  with_reducible refine HX.gn0_ ?_
  refine' HD.begin (K := K) (m := 14) (D := ⟨fun _ _ => False, fun it _ => it = .v (.bl true), fun _ _ => False, fun _ _ => False⟩) hh0 ?len ?main ?ret (fun _ _ z => z) (fun _ _ z => z) (fun _ _ z => z)
  case len => rfl
  case ret =>
    rintro v H ⟨it, n, e, cx, r⟩
    subst e
    cases (show HD.R K cx.g cx.M0 H v (.bl true) from r)
    exact q H
  dsimp only [List.replicate]
  fail "dr"
  refine HD.ForD.inv (fun i ρ n => n ≤ i * 400 ∧ ∃ x0 x2 x3 x4 x5 x6 x7 x8 x9 x10 x11 x12 x13 x14 x15, ρ = [x0, .v .hat, x2, x3, x4, x5, x6, x7, x8, x9, x10, x11, x12, x13, x14, x15]) ⟨by omega, _, _, _, _, _, _, _, _, _, _, _, _, _, _, _, rfl⟩ (fun i x ρ n hx hi hP => ?_) (fun ρ n hP => ?_)
  case refine_2 =>
    obtain ⟨_, x0, x2, x3, x4, x5, x6, x7, x8, x9, x10, x11, x12, x13, x14, x15, rfl⟩ := hP
    fail "dr"
  obtain ⟨hn, x0, x2, x3, x4, x5, x6, x7, x8, x9, x10, x11, x12, x13, x14, x15, rfl⟩ := hP
  obtain ⟨hi, rfl⟩ := HD.rngD_at hx
  have hi2 : i < 2 := hi
  fail "dr"
  refine use_four (by omega) fun a b c d m g hm => ?_
  fail "dr"
  obtain ⟨bb, p, er⟩ : ∃ bb p, res a b c d = (bb, p) := ⟨_, _, rfl⟩
  rw [er]
  obtain ⟨hp, f1, f2, f3, f4⟩ := g.facts er
  clear er
  obtain ⟨l, el⟩ : ∃ l : Bool, l = !bb := ⟨_, rfl⟩
  cases bb
  case' false =>
    rw [show resP T (false, p) = .ins T.C_Between [("word", .str "between"), ("parts", .tup [.int p]), ("low", .int p)] from rfl]
  case' true =>
    rw [show resP T (true, p) = .ins T.C_ByPower [("word", .str "bypower"), ("parts", .tup [.int p]), ("power", .int p)] from rfl]
  all_goals
    fail "dr"
    refine use__law_values (by omega) (by omega) fun z => ?_
    fail "dr"
    refine HD.ForD.inv (fun j ρ n' => n' ≤ m + 1 + j ∧ ∃ (u : Nat) (y0 y1 y2 y3 y4 : HD.S), (0 < j → 0 < u) ∧ u ≤ j ∧ ρ = [x0, .v .hat, .v (.int (0 + (i : Int))), .v (.int a), .v (.int b), .v (.int c), .v (.int d), .ow _, .v (.int p), .v (.lst (valsD p z)), .ow (.lst (List.replicate u (.tup [.bl l, .int p]))), y0, y1, y2, y3, y4]) ⟨by omega, 0, _, _, _, _, _, fun h => absurd h (Nat.lt_irrefl 0), Nat.le_refl _, rfl⟩ (fun j x ρ n' hx hj hP => ?_) (fun ρ n' hP => ?_)
    · obtain ⟨hn', u, y0, y1, y2, y3, y4, hu, hu2, rfl⟩ := hP
      obtain ⟨hj, rfl⟩ := HD.rngD_at hx
      have hj2 : j < 12 := hj
      fail "dr"
      refine HX.ited_ (fun h => ?_) (fun h => ?_)
      · obtain ⟨v, hv, hv2, hv0⟩ := vals_at (p := p) (z := z) (i := j) (by omega)
        fail "dr"
        refine HD.ix_ rfl hv ?_
        have hm2 : n' ≤ m + 1 + (j + 1) := by omega
        obtain ⟨k1, k2, k3, k4, k5⟩ := vals_ok hv2
        fail "dr"
        refine use__law_lies_between ⟨g, k2⟩ ?_
        fail "dr"
        refine use__law_is_power ⟨g, k2⟩ ?_
        fail "dr"
        refine use_Between_init k1 ?_
        fail "dr"
        refine use_shows_bt g k3 ?_
        rw [k4]
        fail "dr"
        rw [decide_eq_true rfl]
        fail "dr"
        refine use_ByPower_init k1 ?_
        fail "dr"
        refine use_shows_by g k3 ?_
        rw [k5]
        fail "dr"
        rw [decide_eq_true rfl]
        fail "dr"
        clear k1 k2 k3 k4 k5
        refine HX.iteb_ (fun h1 => ?_) (fun h1 => ?_)
        · obtain ⟨rfl, e1⟩ := f4 v h1
          first
            | cases e1
              done
            | fail "dr"
              refine HD.append_ rfl rfl (Nat.ble_eq_true_of_le (by rw [List.length_replicate]; omega)) ?_
              fail "dr"
              exact ⟨hm2, u + 1, _, _, _, _, _, fun _ => Nat.succ_pos _, by omega, by rw [h1, el, List.replicate_succ']; rfl⟩
        fail "dr"
        refine HX.iteb_ (fun h2 => ?_) (fun h2 => ?_)
        · obtain ⟨rfl, e1⟩ := f3 v h2
          first
            | cases e1
              done
            | fail "dr"
              refine HD.append_ rfl rfl (Nat.ble_eq_true_of_le (by rw [List.length_replicate]; omega)) ?_
              fail "dr"
              exact ⟨hm2, u + 1, _, _, _, _, _, fun _ => Nat.succ_pos _, by omega, by rw [show btD a b c d (.int p) = false by simpa using h1, el, List.replicate_succ']; rfl⟩
        · have nz : j ≠ 0 := fun e => by
            have := hv0 e
            subst this
            first | exact absurd (f2 rfl) (by simpa using h1) | exact absurd (f1 rfl) (by simpa using h2)
          fail "dr"
          exact ⟨hm2, u, _, _, _, _, _, fun _ => hu (by omega), by omega, rfl⟩
      · fail "dr"
        refine HD.use_one rfl (by omega) ⟨by show 0 < 22; omega, by show 22 ≤ 1000; omega⟩ fun v hv2 => ?_
        have hv0 : j = 0 → v = .int p := fun e => by omega
        have hm2 : n' + 1 ≤ m + 1 + (j + 1) := by omega
        obtain ⟨k1, k2, k3, k4, k5⟩ := vals_ok hv2
        fail "dr"
        refine use__law_lies_between ⟨g, k2⟩ ?_
        fail "dr"
        refine use__law_is_power ⟨g, k2⟩ ?_
        fail "dr"
        refine use_Between_init k1 ?_
        fail "dr"
        refine use_shows_bt g k3 ?_
        rw [k4]
        fail "dr"
        rw [decide_eq_true rfl]
        fail "dr"
        refine use_ByPower_init k1 ?_
        fail "dr"
        refine use_shows_by g k3 ?_
        rw [k5]
        fail "dr"
        rw [decide_eq_true rfl]
        fail "dr"
        clear k1 k2 k3 k4 k5
        refine HX.iteb_ (fun h1 => ?_) (fun h1 => ?_)
        · obtain ⟨rfl, e1⟩ := f4 v h1
          first
            | cases e1
              done
            | fail "dr"
              refine HD.append_ rfl rfl (Nat.ble_eq_true_of_le (by rw [List.length_replicate]; omega)) ?_
              fail "dr"
              exact ⟨hm2, u + 1, _, _, _, _, _, fun _ => Nat.succ_pos _, by omega, by rw [h1, el, List.replicate_succ']; rfl⟩
        fail "dr"
        refine HX.iteb_ (fun h2 => ?_) (fun h2 => ?_)
        · obtain ⟨rfl, e1⟩ := f3 v h2
          first
            | cases e1
              done
            | fail "dr"
              refine HD.append_ rfl rfl (Nat.ble_eq_true_of_le (by rw [List.length_replicate]; omega)) ?_
              fail "dr"
              exact ⟨hm2, u + 1, _, _, _, _, _, fun _ => Nat.succ_pos _, by omega, by rw [show btD a b c d (.int p) = false by simpa using h1, el, List.replicate_succ']; rfl⟩
        · have nz : j ≠ 0 := fun e => by
            have := hv0 e
            subst this
            first | exact absurd (f2 rfl) (by simpa using h1) | exact absurd (f1 rfl) (by simpa using h2)
          fail "dr"
          exact ⟨hm2, u, _, _, _, _, _, fun _ => hu (by omega), by omega, rfl⟩
    · obtain ⟨hn', u, y0, y1, y2, y3, y4, hu, hu2, rfl⟩ := hP
      rw [HD.rngD_len] at hn' hu hu2
      have h12 : (Int.toNat 12) = 12 := rfl
      rw [h12] at hn' hu hu2
      obtain ⟨u, rfl⟩ : ∃ k, u = k + 1 := ⟨u - 1, by have := hu (by omega); omega⟩
      clear hu hu2
      fail "dr"
      refine ⟨u, l, p, rfl, ?_⟩
      fail "dr"
      refine HD.callK_ ?_
      fail "dr"
      show spd_shows_power T [.int a, .int b, .int c, .int d, _] _ _ _
      first
        | (refine use_shows_bt g rfl ?_; rw [f2 rfl])
        | (refine use_shows_by g rfl ?_; rw [f1 rfl])
      fail "dr"
      refine use_Uneven_init rfl ?_
      fail "dr"
      refine use_Whole_init rfl ?_
      fail "dr"
      refine use_NoWhole_init rfl ?_
      fail "dr"
      refine ⟨_, _, rfl, rfl, ?_⟩
      fail "dr"
      refine ⟨_, _, rfl, rfl, ?_⟩
      fail "dr"
      refine HD.use_one rfl (by omega) ⟨by show 0 < 11; omega, by show 11 ≤ 1000; omega⟩ fun v hv => ?_
      have ho : Odd T v := by
        simp only [List.mem_cons, List.mem_nil_iff, or_false] at hv
        rcases hv with rfl | rfl | rfl | rfl | rfl | rfl | rfl | rfl | rfl | rfl | rfl
        · exact .non
        · exact .int _
        · exact .int _
        · exact .tup _
        · exact .str _
        · exact .uneven _
        · exact .whole _
        · exact .nowhole _
        · exact .paper _
        · exact .denial _
        · exact .tup _
      clear hv
      fail "dr"
      refine use_shows_odd g ho ?_
      fail "dr"
      clear ho
      refine HD.use_one rfl (by omega) ⟨by show 0 < 11; omega, by show 11 ≤ 1000; omega⟩ fun v hv => ?_
      have ho : Odd T v := by
        simp only [List.mem_cons, List.mem_nil_iff, or_false] at hv
        rcases hv with rfl | rfl | rfl | rfl | rfl | rfl | rfl | rfl | rfl | rfl | rfl
        · exact .non
        · exact .int _
        · exact .int _
        · exact .tup _
        · exact .str _
        · exact .uneven _
        · exact .whole _
        · exact .nowhole _
        · exact .paper _
        · exact .denial _
        · exact .tup _
      clear hv
      fail "dr"
      refine use_shows_odd g ho ?_
      fail "dr"
      exact ⟨by omega, _, _, _, _, _, _, _, _, _, _, _, _, _, _, _, rfl⟩
end
theorem all_mk {l : PySem.W.OpenLaw} {w : World} {K : PySem.W.Frag} {h : Heap} {mg : Str → Option Value} {fa : Addr} (X : K.In h) (G : h.Ns mainGlobals mg) (hfa : mg "law" = some (.ref fa))
    {C_Paper : Addr} (a_Paper : PySem.W.nsIn K mainGlobals "Paper" = some (some (.ref C_Paper)))
    {C_Whole : Addr} (a_Whole : PySem.W.nsIn K mainGlobals "Whole" = some (some (.ref C_Whole)))
    {C_Denial : Addr} (a_Denial : PySem.W.nsIn K mainGlobals "Denial" = some (some (.ref C_Denial)))
    {C_NoWhole : Addr} (a_NoWhole : PySem.W.nsIn K mainGlobals "NoWhole" = some (some (.ref C_NoWhole)))
    {C_ByPower : Addr} (a_ByPower : PySem.W.nsIn K mainGlobals "ByPower" = some (some (.ref C_ByPower)))
    {C_Between : Addr} (a_Between : PySem.W.nsIn K mainGlobals "Between" = some (some (.ref C_Between)))
    {C_Uneven : Addr} (a_Uneven : PySem.W.nsIn K mainGlobals "Uneven" = some (some (.ref C_Uneven)))
    {od0 an0 : Option Addr} {sl0 : Array (Option Value)} {oc0 kV0 dc0 pm0 ct0 : Value} {f0 : Addr} {cd0 : Value} 
    (a0 : PySem.W.nsIn K mainGlobals "fixed" = some (some (.ref f0)))
    (l0 : K.lookup f0 = some ⟨oc0, od0, .func (PySem.W.fnOf "fixed" "fixed" (defArgs s_fixed) (defBody s_fixed) (defScope s_fixed) .none kV0 dc0 pm0 an0 cd0 ct0), sl0⟩)
    (c0 : PySem.W.codeIn K cd0 "fixed" = true)
    (k0 : PySem.W.keepIn K (.ref f0) = true)
    {od1 an1 : Option Addr} {sl1 : Array (Option Value)} {oc1 kV1 dc1 pm1 ct1 : Value} {f1 : Addr} {cd1 : Value} 
    (a1 : PySem.W.findIn K (.ref C_Paper) "__init__" = some (some (.ref f1)))
    (l1 : K.lookup f1 = some ⟨oc1, od1, .func (PySem.W.fnOf "__init__" "Paper.__init__" (defArgs s_Paper_init) (defBody s_Paper_init) (defScope s_Paper_init) .none kV1 dc1 pm1 an1 cd1 ct1), sl1⟩)
    (c1 : PySem.W.codeIn K cd1 "Paper.__init__" = true)
    {od2 an2 : Option Addr} {sl2 : Array (Option Value)} {oc2 kV2 dc2 pm2 ct2 : Value} {f2 : Addr} {cd2 : Value} 
    (a2 : PySem.W.nsIn K mainGlobals "is_integer" = some (some (.ref f2)))
    (l2 : K.lookup f2 = some ⟨oc2, od2, .func (PySem.W.fnOf "is_integer" "is_integer" (defArgs s_is_integer) (defBody s_is_integer) (defScope s_is_integer) .none kV2 dc2 pm2 an2 cd2 ct2), sl2⟩)
    (c2 : PySem.W.codeIn K cd2 "is_integer" = true)
    (k2 : PySem.W.keepIn K (.ref f2) = true)
    {od3 an3 : Option Addr} {sl3 : Array (Option Value)} {oc3 kV3 dc3 pm3 ct3 : Value} {f3 : Addr} {cd3 : Value} 
    (a3 : PySem.W.nsIn K mainGlobals "is_within" = some (some (.ref f3)))
    (l3 : K.lookup f3 = some ⟨oc3, od3, .func (PySem.W.fnOf "is_within" "is_within" (defArgs s_is_within) (defBody s_is_within) (defScope s_is_within) .none kV3 dc3 pm3 an3 cd3 ct3), sl3⟩)
    (c3 : PySem.W.codeIn K cd3 "is_within" = true)
    (k3 : PySem.W.keepIn K (.ref f3) = true)
    {od4 an4 : Option Addr} {sl4 : Array (Option Value)} {oc4 kV4 dc4 pm4 ct4 : Value} {f4 : Addr} 
    (a4 : PySem.W.findIn K (.ref C_Whole) "__init__" = some (some (.ref f4)))
    {cc4 ca4 : Addr} {xcl4 : Value} {xcd4 : Option Addr} {xvs4 : Array Value} {xcs4 : Array (Option Value)} {file4 : Str} {tf4 : Tok} {ycl4 : Value} {ycd4 : Option Addr} {ycs4 : Array (Option Value)} {cdD4 : ClassData} 
    (l4 : K.lookup f4 = some ⟨oc4, od4, .func (PySem.W.fnX "__init__" "Whole.__init__" (defArgs s_Whole_init) (defBody s_Whole_init) (defScope s_Whole_init) [("__class__", cc4)] .none kV4 dc4 pm4 an4 (.ref ca4) ct4), sl4⟩)
    (c4 : PySem.W.codeIn K (.ref ca4) "Whole.__init__" = true)
    (x4 : K.lookup ca4 = some ⟨xcl4, xcd4, .fields xvs4, xcs4⟩)
    (u4 : xvs4[2]? = some (.str file4 tf4))
    (v4 : ((l.prog.main.file : Str) == file4) = true)
    (y4 : K.lookup cc4 = some ⟨ycl4, ycd4, .cell (some (.ref C_Whole)), ycs4⟩)
    (w4 : PySem.W.clsIn K C_Whole = some cdD4)
    (z_super : PySem.W.nsIn K mainGlobals "super" = some none)
    (t_super : (l.prog.main.scope.names.lookup ("super" : Str)).isSome = false)
    {od5 an5 : Option Addr} {sl5 : Array (Option Value)} {oc5 kV5 dc5 pm5 ct5 : Value} {f5 : Addr} 
    (a5 : PySem.W.findIn K (.ref C_NoWhole) "__init__" = some (some (.ref f5)))
    {cc5 ca5 : Addr} {xcl5 : Value} {xcd5 : Option Addr} {xvs5 : Array Value} {xcs5 : Array (Option Value)} {file5 : Str} {tf5 : Tok} {ycl5 : Value} {ycd5 : Option Addr} {ycs5 : Array (Option Value)} {cdD5 : ClassData} 
    (l5 : K.lookup f5 = some ⟨oc5, od5, .func (PySem.W.fnX "__init__" "NoWhole.__init__" (defArgs s_NoWhole_init) (defBody s_NoWhole_init) (defScope s_NoWhole_init) [("__class__", cc5)] .none kV5 dc5 pm5 an5 (.ref ca5) ct5), sl5⟩)
    (c5 : PySem.W.codeIn K (.ref ca5) "NoWhole.__init__" = true)
    (x5 : K.lookup ca5 = some ⟨xcl5, xcd5, .fields xvs5, xcs5⟩)
    (u5 : xvs5[2]? = some (.str file5 tf5))
    (v5 : ((l.prog.main.file : Str) == file5) = true)
    (y5 : K.lookup cc5 = some ⟨ycl5, ycd5, .cell (some (.ref C_NoWhole)), ycs5⟩)
    (w5 : PySem.W.clsIn K C_NoWhole = some cdD5)
    {od6 an6 : Option Addr} {sl6 : Array (Option Value)} {oc6 kV6 dc6 pm6 ct6 : Value} {f6 : Addr} {cd6 : Value} 
    (a6 : PySem.W.nsIn K mainGlobals "need_number" = some (some (.ref f6)))
    (l6 : K.lookup f6 = some ⟨oc6, od6, .func (PySem.W.fnOf "need_number" "need_number" (defArgs s_need_number) (defBody s_need_number) (defScope s_need_number) .none kV6 dc6 pm6 an6 cd6 ct6), sl6⟩)
    (c6 : PySem.W.codeIn K cd6 "need_number" = true)
    (k6 : PySem.W.keepIn K (.ref f6) = true)
    {od7 an7 : Option Addr} {sl7 : Array (Option Value)} {oc7 kV7 dc7 pm7 ct7 : Value} {f7 : Addr} {cd7 : Value} 
    (a7 : PySem.W.nsIn K mainGlobals "raised" = some (some (.ref f7)))
    (l7 : K.lookup f7 = some ⟨oc7, od7, .func (PySem.W.fnOf "raised" "raised" (defArgs s_raised) (defBody s_raised) (defScope s_raised) .none kV7 dc7 pm7 an7 cd7 ct7), sl7⟩)
    (c7 : PySem.W.codeIn K cd7 "raised" = true)
    (k7 : PySem.W.keepIn K (.ref f7) = true)
    {od8 an8 : Option Addr} {sl8 : Array (Option Value)} {oc8 kV8 dc8 pm8 ct8 : Value} {f8 : Addr} {cd8 : Value} 
    (a8 : PySem.W.nsIn K mainGlobals "lifted" = some (some (.ref f8)))
    (l8 : K.lookup f8 = some ⟨oc8, od8, .func (PySem.W.fnOf "lifted" "lifted" (defArgs s_lifted) (defBody s_lifted) (defScope s_lifted) .none kV8 dc8 pm8 an8 cd8 ct8), sl8⟩)
    (c8 : PySem.W.codeIn K cd8 "lifted" = true)
    (k8 : PySem.W.keepIn K (.ref f8) = true)
    {od9 an9 : Option Addr} {sl9 : Array (Option Value)} {oc9 kV9 dc9 pm9 ct9 : Value} {f9 : Addr} {cd9 : Value} 
    (a9 : PySem.W.nsIn K mainGlobals "sum_at" = some (some (.ref f9)))
    (l9 : K.lookup f9 = some ⟨oc9, od9, .func (PySem.W.fnOf "sum_at" "sum_at" (defArgs s_sum_at) (defBody s_sum_at) (defScope s_sum_at) .none kV9 dc9 pm9 an9 cd9 ct9), sl9⟩)
    (c9 : PySem.W.codeIn K cd9 "sum_at" = true)
    (k9 : PySem.W.keepIn K (.ref f9) = true)
    {od10 an10 : Option Addr} {sl10 : Array (Option Value)} {oc10 kV10 dc10 pm10 ct10 : Value} {f10 : Addr} {cd10 : Value} 
    (a10 : PySem.W.nsIn K mainGlobals "holds_by" = some (some (.ref f10)))
    (l10 : K.lookup f10 = some ⟨oc10, od10, .func (PySem.W.fnOf "holds_by" "holds_by" (defArgs s_holds_by) (defBody s_holds_by) (defScope s_holds_by) .none kV10 dc10 pm10 an10 cd10 ct10), sl10⟩)
    (c10 : PySem.W.codeIn K cd10 "holds_by" = true)
    (k10 : PySem.W.keepIn K (.ref f10) = true)
    {od11 an11 : Option Addr} {sl11 : Array (Option Value)} {oc11 kV11 dc11 pm11 ct11 : Value} {f11 : Addr} 
    (a11 : PySem.W.findIn K (.ref C_ByPower) "__init__" = some (some (.ref f11)))
    {cc11 ca11 : Addr} {xcl11 : Value} {xcd11 : Option Addr} {xvs11 : Array Value} {xcs11 : Array (Option Value)} {file11 : Str} {tf11 : Tok} {ycl11 : Value} {ycd11 : Option Addr} {ycs11 : Array (Option Value)} {cdD11 : ClassData} 
    (l11 : K.lookup f11 = some ⟨oc11, od11, .func (PySem.W.fnX "__init__" "ByPower.__init__" (defArgs s_ByPower_init) (defBody s_ByPower_init) (defScope s_ByPower_init) [("__class__", cc11)] .none kV11 dc11 pm11 an11 (.ref ca11) ct11), sl11⟩)
    (c11 : PySem.W.codeIn K (.ref ca11) "ByPower.__init__" = true)
    (x11 : K.lookup ca11 = some ⟨xcl11, xcd11, .fields xvs11, xcs11⟩)
    (u11 : xvs11[2]? = some (.str file11 tf11))
    (v11 : ((l.prog.main.file : Str) == file11) = true)
    (y11 : K.lookup cc11 = some ⟨ycl11, ycd11, .cell (some (.ref C_ByPower)), ycs11⟩)
    (w11 : PySem.W.clsIn K C_ByPower = some cdD11)
    {od12 an12 : Option Addr} {sl12 : Array (Option Value)} {oc12 kV12 dc12 pm12 ct12 : Value} {f12 : Addr} 
    (a12 : PySem.W.findIn K (.ref C_Between) "__init__" = some (some (.ref f12)))
    {cc12 ca12 : Addr} {xcl12 : Value} {xcd12 : Option Addr} {xvs12 : Array Value} {xcs12 : Array (Option Value)} {file12 : Str} {tf12 : Tok} {ycl12 : Value} {ycd12 : Option Addr} {ycs12 : Array (Option Value)} {cdD12 : ClassData} 
    (l12 : K.lookup f12 = some ⟨oc12, od12, .func (PySem.W.fnX "__init__" "Between.__init__" (defArgs s_Between_init) (defBody s_Between_init) (defScope s_Between_init) [("__class__", cc12)] .none kV12 dc12 pm12 an12 (.ref ca12) ct12), sl12⟩)
    (c12 : PySem.W.codeIn K (.ref ca12) "Between.__init__" = true)
    (x12 : K.lookup ca12 = some ⟨xcl12, xcd12, .fields xvs12, xcs12⟩)
    (u12 : xvs12[2]? = some (.str file12 tf12))
    (v12 : ((l.prog.main.file : Str) == file12) = true)
    (y12 : K.lookup cc12 = some ⟨ycl12, ycd12, .cell (some (.ref C_Between)), ycs12⟩)
    (w12 : PySem.W.clsIn K C_Between = some cdD12)
    {od13 an13 : Option Addr} {sl13 : Array (Option Value)} {oc13 kV13 dc13 pm13 ct13 : Value} {f13 : Addr} {cd13 : Value} 
    (a13 : PySem.W.nsIn K mainGlobals "need_growing" = some (some (.ref f13)))
    (l13 : K.lookup f13 = some ⟨oc13, od13, .func (PySem.W.fnOf "need_growing" "need_growing" (defArgs s_need_growing) (defBody s_need_growing) (defScope s_need_growing) .none kV13 dc13 pm13 an13 cd13 ct13), sl13⟩)
    (c13 : PySem.W.codeIn K cd13 "need_growing" = true)
    (k13 : PySem.W.keepIn K (.ref f13) = true)
    {od14 an14 : Option Addr} {sl14 : Array (Option Value)} {oc14 kV14 dc14 pm14 ct14 : Value} {f14 : Addr} {cd14 : Value} 
    (a14 : PySem.W.nsIn K mainGlobals "least_step" = some (some (.ref f14)))
    (l14 : K.lookup f14 = some ⟨oc14, od14, .func (PySem.W.fnOf "least_step" "least_step" (defArgs s_least_step) (defBody s_least_step) (defScope s_least_step) .none kV14 dc14 pm14 an14 cd14 ct14), sl14⟩)
    (c14 : PySem.W.codeIn K cd14 "least_step" = true)
    (k14 : PySem.W.keepIn K (.ref f14) = true)
    {od15 an15 : Option Addr} {sl15 : Array (Option Value)} {oc15 kV15 dc15 pm15 ct15 : Value} {f15 : Addr} {cd15 : Value} 
    (a15 : PySem.W.nsIn K mainGlobals "power_of" = some (some (.ref f15)))
    (l15 : K.lookup f15 = some ⟨oc15, od15, .func (PySem.W.fnOf "power_of" "power_of" (defArgs s_power_of) (defBody s_power_of) (defScope s_power_of) .none kV15 dc15 pm15 an15 cd15 ct15), sl15⟩)
    (c15 : PySem.W.codeIn K cd15 "power_of" = true)
    (k15 : PySem.W.keepIn K (.ref f15) = true)
    {od16 an16 : Option Addr} {sl16 : Array (Option Value)} {oc16 kV16 dc16 pm16 ct16 : Value} {f16 : Addr} 
    (a16 : PySem.W.findIn K (.ref C_Uneven) "__init__" = some (some (.ref f16)))
    {cc16 ca16 : Addr} {xcl16 : Value} {xcd16 : Option Addr} {xvs16 : Array Value} {xcs16 : Array (Option Value)} {file16 : Str} {tf16 : Tok} {ycl16 : Value} {ycd16 : Option Addr} {ycs16 : Array (Option Value)} {cdD16 : ClassData} 
    (l16 : K.lookup f16 = some ⟨oc16, od16, .func (PySem.W.fnX "__init__" "Uneven.__init__" (defArgs s_Uneven_init) (defBody s_Uneven_init) (defScope s_Uneven_init) [("__class__", cc16)] .none kV16 dc16 pm16 an16 (.ref ca16) ct16), sl16⟩)
    (c16 : PySem.W.codeIn K (.ref ca16) "Uneven.__init__" = true)
    (x16 : K.lookup ca16 = some ⟨xcl16, xcd16, .fields xvs16, xcs16⟩)
    (u16 : xvs16[2]? = some (.str file16 tf16))
    (v16 : ((l.prog.main.file : Str) == file16) = true)
    (y16 : K.lookup cc16 = some ⟨ycl16, ycd16, .cell (some (.ref C_Uneven)), ycs16⟩)
    (w16 : PySem.W.clsIn K C_Uneven = some cdD16)
    {od17 an17 : Option Addr} {sl17 : Array (Option Value)} {oc17 kV17 dc17 pm17 ct17 : Value} {f17 : Addr} {cd17 : Value} 
    (a17 : PySem.W.nsIn K mainGlobals "is_between" = some (some (.ref f17)))
    (l17 : K.lookup f17 = some ⟨oc17, od17, .func (PySem.W.fnOf "is_between" "is_between" (defArgs s_is_between) (defBody s_is_between) (defScope s_is_between) .none kV17 dc17 pm17 an17 cd17 ct17), sl17⟩)
    (c17 : PySem.W.codeIn K cd17 "is_between" = true)
    (k17 : PySem.W.keepIn K (.ref f17) = true)
    {od18 an18 : Option Addr} {sl18 : Array (Option Value)} {oc18 kV18 dc18 pm18 ct18 : Value} {f18 : Addr} {cd18 : Value} 
    (a18 : PySem.W.nsIn K mainGlobals "shows_power" = some (some (.ref f18)))
    (l18 : K.lookup f18 = some ⟨oc18, od18, .func (PySem.W.fnOf "shows_power" "shows_power" (defArgs s_shows_power) (defBody s_shows_power) (defScope s_shows_power) .none kV18 dc18 pm18 an18 cd18 ct18), sl18⟩)
    (c18 : PySem.W.codeIn K cd18 "shows_power" = true)
    (k18 : PySem.W.keepIn K (.ref f18) = true)
    {od19 an19 : Option Addr} {sl19 : Array (Option Value)} {oc19 kV19 dc19 pm19 ct19 : Value} {f19 : Addr} {cd19 : Value} 
    (a19 : PySem.W.nsIn K mainGlobals "_law_hat" = some (some (.ref f19)))
    (l19 : K.lookup f19 = some ⟨oc19, od19, .func (PySem.W.fnOf "_law_hat" "_law_hat" (defArgs s__law_hat) (defBody s__law_hat) (defScope s__law_hat) .none kV19 dc19 pm19 an19 cd19 ct19), sl19⟩)
    (c19 : PySem.W.codeIn K cd19 "_law_hat" = true)
    (k19 : PySem.W.keepIn K (.ref f19) = true)
    {od20 an20 : Option Addr} {sl20 : Array (Option Value)} {oc20 kV20 dc20 pm20 ct20 : Value} {f20 : Addr} {cd20 : Value} 
    (a20 : PySem.W.nsIn K mainGlobals "_law_lot" = some (some (.ref f20)))
    (l20 : K.lookup f20 = some ⟨oc20, od20, .func (PySem.W.fnOf "_law_lot" "_law_lot" (defArgs s__law_lot) (defBody s__law_lot) (defScope s__law_lot) .none kV20 dc20 pm20 an20 cd20 ct20), sl20⟩)
    (c20 : PySem.W.codeIn K cd20 "_law_lot" = true)
    (k20 : PySem.W.keepIn K (.ref f20) = true)
    {od21 an21 : Option Addr} {sl21 : Array (Option Value)} {oc21 kV21 dc21 pm21 ct21 : Value} {f21 : Addr} {cd21 : Value} 
    (a21 : PySem.W.nsIn K mainGlobals "_law_one" = some (some (.ref f21)))
    (l21 : K.lookup f21 = some ⟨oc21, od21, .func (PySem.W.fnOf "_law_one" "_law_one" (defArgs s__law_one) (defBody s__law_one) (defScope s__law_one) .none kV21 dc21 pm21 an21 cd21 ct21), sl21⟩)
    (c21 : PySem.W.codeIn K cd21 "_law_one" = true)
    (k21 : PySem.W.keepIn K (.ref f21) = true)
    {od22 an22 : Option Addr} {sl22 : Array (Option Value)} {oc22 kV22 dc22 pm22 ct22 : Value} {f22 : Addr} {cd22 : Value} 
    (a22 : PySem.W.nsIn K mainGlobals "_law_any" = some (some (.ref f22)))
    (l22 : K.lookup f22 = some ⟨oc22, od22, .func (PySem.W.fnOf "_law_any" "_law_any" (defArgs s__law_any) (defBody s__law_any) (defScope s__law_any) .none kV22 dc22 pm22 an22 cd22 ct22), sl22⟩)
    (c22 : PySem.W.codeIn K cd22 "_law_any" = true)
    (k22 : PySem.W.keepIn K (.ref f22) = true)
    {od23 an23 : Option Addr} {sl23 : Array (Option Value)} {oc23 kV23 dc23 pm23 ct23 : Value} {f23 : Addr} {cd23 : Value} 
    (a23 : PySem.W.nsIn K mainGlobals "_law_grows" = some (some (.ref f23)))
    (l23 : K.lookup f23 = some ⟨oc23, od23, .func (PySem.W.fnOf "_law_grows" "_law_grows" (defArgs s__law_grows) (defBody s__law_grows) (defScope s__law_grows) .none kV23 dc23 pm23 an23 cd23 ct23), sl23⟩)
    (c23 : PySem.W.codeIn K cd23 "_law_grows" = true)
    (k23 : PySem.W.keepIn K (.ref f23) = true)
    {od24 an24 : Option Addr} {sl24 : Array (Option Value)} {oc24 kV24 dc24 pm24 ct24 : Value} {f24 : Addr} {cd24 : Value} 
    (a24 : PySem.W.nsIn K mainGlobals "_law_planted" = some (some (.ref f24)))
    (l24 : K.lookup f24 = some ⟨oc24, od24, .func (PySem.W.fnOf "_law_planted" "_law_planted" (defArgs s__law_planted) (defBody s__law_planted) (defScope s__law_planted) .none kV24 dc24 pm24 an24 cd24 ct24), sl24⟩)
    (c24 : PySem.W.codeIn K cd24 "_law_planted" = true)
    (k24 : PySem.W.keepIn K (.ref f24) = true)
    {od25 an25 : Option Addr} {sl25 : Array (Option Value)} {oc25 kV25 dc25 pm25 ct25 : Value} {f25 : Addr} {cd25 : Value} 
    (a25 : PySem.W.nsIn K mainGlobals "_law_four" = some (some (.ref f25)))
    (l25 : K.lookup f25 = some ⟨oc25, od25, .func (PySem.W.fnOf "_law_four" "_law_four" (defArgs s__law_four) (defBody s__law_four) (defScope s__law_four) .none kV25 dc25 pm25 an25 cd25 ct25), sl25⟩)
    (c25 : PySem.W.codeIn K cd25 "_law_four" = true)
    (k25 : PySem.W.keepIn K (.ref f25) = true)
    {od26 an26 : Option Addr} {sl26 : Array (Option Value)} {oc26 kV26 dc26 pm26 ct26 : Value} {f26 : Addr} {cd26 : Value} 
    (a26 : PySem.W.nsIn K mainGlobals "_law_raised" = some (some (.ref f26)))
    (l26 : K.lookup f26 = some ⟨oc26, od26, .func (PySem.W.fnOf "_law_raised" "_law_raised" (defArgs s__law_raised) (defBody s__law_raised) (defScope s__law_raised) .none kV26 dc26 pm26 an26 cd26 ct26), sl26⟩)
    (c26 : PySem.W.codeIn K cd26 "_law_raised" = true)
    (k26 : PySem.W.keepIn K (.ref f26) = true)
    {od27 an27 : Option Addr} {sl27 : Array (Option Value)} {oc27 kV27 dc27 pm27 ct27 : Value} {f27 : Addr} {cd27 : Value} 
    (a27 : PySem.W.nsIn K mainGlobals "_law_sum" = some (some (.ref f27)))
    (l27 : K.lookup f27 = some ⟨oc27, od27, .func (PySem.W.fnOf "_law_sum" "_law_sum" (defArgs s__law_sum) (defBody s__law_sum) (defScope s__law_sum) .none kV27 dc27 pm27 an27 cd27 ct27), sl27⟩)
    (c27 : PySem.W.codeIn K cd27 "_law_sum" = true)
    (k27 : PySem.W.keepIn K (.ref f27) = true)
    {od28 an28 : Option Addr} {sl28 : Array (Option Value)} {oc28 kV28 dc28 pm28 ct28 : Value} {f28 : Addr} {cd28 : Value} 
    (a28 : PySem.W.nsIn K mainGlobals "_law_is_by" = some (some (.ref f28)))
    (l28 : K.lookup f28 = some ⟨oc28, od28, .func (PySem.W.fnOf "_law_is_by" "_law_is_by" (defArgs s__law_is_by) (defBody s__law_is_by) (defScope s__law_is_by) .none kV28 dc28 pm28 an28 cd28 ct28), sl28⟩)
    (c28 : PySem.W.codeIn K cd28 "_law_is_by" = true)
    (k28 : PySem.W.keepIn K (.ref f28) = true)
    {od29 an29 : Option Addr} {sl29 : Array (Option Value)} {oc29 kV29 dc29 pm29 ct29 : Value} {f29 : Addr} {cd29 : Value} 
    (a29 : PySem.W.nsIn K mainGlobals "_law_is_whole" = some (some (.ref f29)))
    (l29 : K.lookup f29 = some ⟨oc29, od29, .func (PySem.W.fnOf "_law_is_whole" "_law_is_whole" (defArgs s__law_is_whole) (defBody s__law_is_whole) (defScope s__law_is_whole) .none kV29 dc29 pm29 an29 cd29 ct29), sl29⟩)
    (c29 : PySem.W.codeIn K cd29 "_law_is_whole" = true)
    (k29 : PySem.W.keepIn K (.ref f29) = true)
    {od30 an30 : Option Addr} {sl30 : Array (Option Value)} {oc30 kV30 dc30 pm30 ct30 : Value} {f30 : Addr} {cd30 : Value} 
    (a30 : PySem.W.nsIn K mainGlobals "_law_lies_between" = some (some (.ref f30)))
    (l30 : K.lookup f30 = some ⟨oc30, od30, .func (PySem.W.fnOf "_law_lies_between" "_law_lies_between" (defArgs s__law_lies_between) (defBody s__law_lies_between) (defScope s__law_lies_between) .none kV30 dc30 pm30 an30 cd30 ct30), sl30⟩)
    (c30 : PySem.W.codeIn K cd30 "_law_lies_between" = true)
    (k30 : PySem.W.keepIn K (.ref f30) = true)
    {od31 an31 : Option Addr} {sl31 : Array (Option Value)} {oc31 kV31 dc31 pm31 ct31 : Value} {f31 : Addr} {cd31 : Value} 
    (a31 : PySem.W.nsIn K mainGlobals "_law_is_power" = some (some (.ref f31)))
    (l31 : K.lookup f31 = some ⟨oc31, od31, .func (PySem.W.fnOf "_law_is_power" "_law_is_power" (defArgs s__law_is_power) (defBody s__law_is_power) (defScope s__law_is_power) .none kV31 dc31 pm31 an31 cd31 ct31), sl31⟩)
    (c31 : PySem.W.codeIn K cd31 "_law_is_power" = true)
    (k31 : PySem.W.keepIn K (.ref f31) = true)
    {od32 an32 : Option Addr} {sl32 : Array (Option Value)} {oc32 kV32 dc32 pm32 ct32 : Value} {f32 : Addr} {cd32 : Value} 
    (a32 : PySem.W.nsIn K mainGlobals "_law_values" = some (some (.ref f32)))
    (l32 : K.lookup f32 = some ⟨oc32, od32, .func (PySem.W.fnOf "_law_values" "_law_values" (defArgs s__law_values) (defBody s__law_values) (defScope s__law_values) .none kV32 dc32 pm32 an32 cd32 ct32), sl32⟩)
    (c32 : PySem.W.codeIn K cd32 "_law_values" = true)
    (k32 : PySem.W.keepIn K (.ref f32) = true)
    {od33 an33 : Option Addr} {sl33 : Array (Option Value)} {oc33 kV33 dc33 pm33 ct33 : Value} {f33 : Addr} {cd33 : Value} 
    (a33 : PySem.W.nsIn K mainGlobals "law" = some (some (.ref f33)))
    (l33 : K.lookup f33 = some ⟨oc33, od33, .func (PySem.W.fnOf "law" "law" (defArgs s_law) (defBody s_law) (defScope s_law) .none kV33 dc33 pm33 an33 cd33 ct33), sl33⟩)
    (c33 : PySem.W.codeIn K cd33 "law" = true)
    (k33 : PySem.W.keepIn K (.ref f33) = true)
    (oG : PySem.W.specialIn K (.builtin "object.__class__") "__get__" = some (some (.builtin "getset_descriptor.__get__")))
    (oT : PySem.W.takesIn K (.builtin "object.__class__") = some true)
    (oS : PySem.W.nsIn K cStatics "thirdparty.any" = some none)
    (mk1_Between : PySem.W.makesIn K C_Between = true)
    (mk2_Between : PySem.W.findIn K (.ref C_Between) "__init__" = some (some (.ref f12)))
    (mk3_Between : PySem.W.isFn K (.ref f12) = true)
    (mk4_Between : PySem.W.keepIn K (.ref C_Between) = true)
    (p1_Between : PySem.W.plainGet K C_Between Str.empty = true)
    (p2_Between : PySem.W.hasDictIn K C_Between = true)
    (p3_Between : PySem.W.plainOver K C_Between = true)
    (p4_Between : PySem.W.findIn K (.ref C_Between) "__setattr__" = some (some (.builtin "object.__setattr__")))
    (p5_Between : PySem.W.plainGet K C_Between "__class__" = true)
    (p6_Between : PySem.W.findIn K (.ref C_Between) "__class__" = some (some (.builtin "object.__class__")))
    (p7_Between : PySem.W.mroIn K C_Between (.type "object") = some true)
    {odN_Between : Option Addr} {cdN_Between : ClassData} {slN_Between : Array (Option Value)} {tkN_Between : Tok}
    (p8_Between : PySem.W.readsIn K C_Between (.type "type") = true)
    (p9_Between : PySem.W.findCls K (.ref C_Between) (.type "type") "__name__" = some (.get (.builtin "getset_descriptor.__get__") (.builtin "type.__name__") (.ref C_Between) (.type "type")))
    (p10_Between : K.lookup C_Between = some ⟨.type "type", odN_Between, .cls cdN_Between, slN_Between⟩)
    (p11_Between : slN_Between[2]? = some (some (.str "Between" tkN_Between)))
    (p12_Between : NoAttr K C_Between "word")
    (p13_Between : NoAttr K C_Between "parts")
    (p14_Between : PySem.W.kitOne K (.ref C_Between) (.ref C_Paper) = some true)
    (s1_Between_Between : PySem.W.ks_superIn K C_Between C_Between "__init__" = some (some (.ref f1)))
    (s2_Between_Between : PySem.W.typeIn K (.ref f1) = some (.type "function"))
    (s3_Between_Between : PySem.W.fnIn K f1 = true)
    (s4_Between_Between : PySem.W.mroIn K C_Between (.ref C_Between) = some true)
    (n_Between_low : NoAttr K C_Between "low")
    (i_Between_ByPower : PySem.W.kitOne K (.ref C_Between) (.ref C_ByPower) = some false)
    (i_Between_Between : PySem.W.kitOne K (.ref C_Between) (.ref C_Between) = some true)
    (io_Between_list : PySem.W.kitOne K (.ref C_Between) (.type "list") = some false)
    (io_Between_tuple : PySem.W.kitOne K (.ref C_Between) (.type "tuple") = some false)
    (io_Between_int : PySem.W.kitOne K (.ref C_Between) (.type "int") = some false)
    (io_Between_bool : PySem.W.kitOne K (.ref C_Between) (.type "bool") = some false)
    (mk1_ByPower : PySem.W.makesIn K C_ByPower = true)
    (mk2_ByPower : PySem.W.findIn K (.ref C_ByPower) "__init__" = some (some (.ref f11)))
    (mk3_ByPower : PySem.W.isFn K (.ref f11) = true)
    (mk4_ByPower : PySem.W.keepIn K (.ref C_ByPower) = true)
    (p1_ByPower : PySem.W.plainGet K C_ByPower Str.empty = true)
    (p2_ByPower : PySem.W.hasDictIn K C_ByPower = true)
    (p3_ByPower : PySem.W.plainOver K C_ByPower = true)
    (p4_ByPower : PySem.W.findIn K (.ref C_ByPower) "__setattr__" = some (some (.builtin "object.__setattr__")))
    (p5_ByPower : PySem.W.plainGet K C_ByPower "__class__" = true)
    (p6_ByPower : PySem.W.findIn K (.ref C_ByPower) "__class__" = some (some (.builtin "object.__class__")))
    (p7_ByPower : PySem.W.mroIn K C_ByPower (.type "object") = some true)
    {odN_ByPower : Option Addr} {cdN_ByPower : ClassData} {slN_ByPower : Array (Option Value)} {tkN_ByPower : Tok}
    (p8_ByPower : PySem.W.readsIn K C_ByPower (.type "type") = true)
    (p9_ByPower : PySem.W.findCls K (.ref C_ByPower) (.type "type") "__name__" = some (.get (.builtin "getset_descriptor.__get__") (.builtin "type.__name__") (.ref C_ByPower) (.type "type")))
    (p10_ByPower : K.lookup C_ByPower = some ⟨.type "type", odN_ByPower, .cls cdN_ByPower, slN_ByPower⟩)
    (p11_ByPower : slN_ByPower[2]? = some (some (.str "ByPower" tkN_ByPower)))
    (p12_ByPower : NoAttr K C_ByPower "word")
    (p13_ByPower : NoAttr K C_ByPower "parts")
    (p14_ByPower : PySem.W.kitOne K (.ref C_ByPower) (.ref C_Paper) = some true)
    (s1_ByPower_ByPower : PySem.W.ks_superIn K C_ByPower C_ByPower "__init__" = some (some (.ref f1)))
    (s2_ByPower_ByPower : PySem.W.typeIn K (.ref f1) = some (.type "function"))
    (s3_ByPower_ByPower : PySem.W.fnIn K f1 = true)
    (s4_ByPower_ByPower : PySem.W.mroIn K C_ByPower (.ref C_ByPower) = some true)
    (n_ByPower_power : NoAttr K C_ByPower "power")
    (i_ByPower_ByPower : PySem.W.kitOne K (.ref C_ByPower) (.ref C_ByPower) = some true)
    (i_ByPower_Between : PySem.W.kitOne K (.ref C_ByPower) (.ref C_Between) = some false)
    (io_ByPower_list : PySem.W.kitOne K (.ref C_ByPower) (.type "list") = some false)
    (io_ByPower_tuple : PySem.W.kitOne K (.ref C_ByPower) (.type "tuple") = some false)
    (io_ByPower_int : PySem.W.kitOne K (.ref C_ByPower) (.type "int") = some false)
    (io_ByPower_bool : PySem.W.kitOne K (.ref C_ByPower) (.type "bool") = some false)
    (mk1_Uneven : PySem.W.makesIn K C_Uneven = true)
    (mk2_Uneven : PySem.W.findIn K (.ref C_Uneven) "__init__" = some (some (.ref f16)))
    (mk3_Uneven : PySem.W.isFn K (.ref f16) = true)
    (mk4_Uneven : PySem.W.keepIn K (.ref C_Uneven) = true)
    (p1_Uneven : PySem.W.plainGet K C_Uneven Str.empty = true)
    (p2_Uneven : PySem.W.hasDictIn K C_Uneven = true)
    (p3_Uneven : PySem.W.plainOver K C_Uneven = true)
    (p4_Uneven : PySem.W.findIn K (.ref C_Uneven) "__setattr__" = some (some (.builtin "object.__setattr__")))
    (p5_Uneven : PySem.W.plainGet K C_Uneven "__class__" = true)
    (p6_Uneven : PySem.W.findIn K (.ref C_Uneven) "__class__" = some (some (.builtin "object.__class__")))
    (p7_Uneven : PySem.W.mroIn K C_Uneven (.type "object") = some true)
    {odN_Uneven : Option Addr} {cdN_Uneven : ClassData} {slN_Uneven : Array (Option Value)} {tkN_Uneven : Tok}
    (p8_Uneven : PySem.W.readsIn K C_Uneven (.type "type") = true)
    (p9_Uneven : PySem.W.findCls K (.ref C_Uneven) (.type "type") "__name__" = some (.get (.builtin "getset_descriptor.__get__") (.builtin "type.__name__") (.ref C_Uneven) (.type "type")))
    (p10_Uneven : K.lookup C_Uneven = some ⟨.type "type", odN_Uneven, .cls cdN_Uneven, slN_Uneven⟩)
    (p11_Uneven : slN_Uneven[2]? = some (some (.str "Uneven" tkN_Uneven)))
    (p12_Uneven : NoAttr K C_Uneven "word")
    (p13_Uneven : NoAttr K C_Uneven "parts")
    (p14_Uneven : PySem.W.kitOne K (.ref C_Uneven) (.ref C_Paper) = some true)
    (s1_Uneven_Uneven : PySem.W.ks_superIn K C_Uneven C_Uneven "__init__" = some (some (.ref f1)))
    (s2_Uneven_Uneven : PySem.W.typeIn K (.ref f1) = some (.type "function"))
    (s3_Uneven_Uneven : PySem.W.fnIn K f1 = true)
    (s4_Uneven_Uneven : PySem.W.mroIn K C_Uneven (.ref C_Uneven) = some true)
    (n_Uneven_step : NoAttr K C_Uneven "step")
    (i_Uneven_ByPower : PySem.W.kitOne K (.ref C_Uneven) (.ref C_ByPower) = some false)
    (i_Uneven_Between : PySem.W.kitOne K (.ref C_Uneven) (.ref C_Between) = some false)
    (io_Uneven_list : PySem.W.kitOne K (.ref C_Uneven) (.type "list") = some false)
    (io_Uneven_tuple : PySem.W.kitOne K (.ref C_Uneven) (.type "tuple") = some false)
    (io_Uneven_int : PySem.W.kitOne K (.ref C_Uneven) (.type "int") = some false)
    (io_Uneven_bool : PySem.W.kitOne K (.ref C_Uneven) (.type "bool") = some false)
    (mk1_Whole : PySem.W.makesIn K C_Whole = true)
    (mk2_Whole : PySem.W.findIn K (.ref C_Whole) "__init__" = some (some (.ref f4)))
    (mk3_Whole : PySem.W.isFn K (.ref f4) = true)
    (mk4_Whole : PySem.W.keepIn K (.ref C_Whole) = true)
    (p1_Whole : PySem.W.plainGet K C_Whole Str.empty = true)
    (p2_Whole : PySem.W.hasDictIn K C_Whole = true)
    (p3_Whole : PySem.W.plainOver K C_Whole = true)
    (p4_Whole : PySem.W.findIn K (.ref C_Whole) "__setattr__" = some (some (.builtin "object.__setattr__")))
    (p5_Whole : PySem.W.plainGet K C_Whole "__class__" = true)
    (p6_Whole : PySem.W.findIn K (.ref C_Whole) "__class__" = some (some (.builtin "object.__class__")))
    (p7_Whole : PySem.W.mroIn K C_Whole (.type "object") = some true)
    {odN_Whole : Option Addr} {cdN_Whole : ClassData} {slN_Whole : Array (Option Value)} {tkN_Whole : Tok}
    (p8_Whole : PySem.W.readsIn K C_Whole (.type "type") = true)
    (p9_Whole : PySem.W.findCls K (.ref C_Whole) (.type "type") "__name__" = some (.get (.builtin "getset_descriptor.__get__") (.builtin "type.__name__") (.ref C_Whole) (.type "type")))
    (p10_Whole : K.lookup C_Whole = some ⟨.type "type", odN_Whole, .cls cdN_Whole, slN_Whole⟩)
    (p11_Whole : slN_Whole[2]? = some (some (.str "Whole" tkN_Whole)))
    (p12_Whole : NoAttr K C_Whole "word")
    (p13_Whole : NoAttr K C_Whole "parts")
    (p14_Whole : PySem.W.kitOne K (.ref C_Whole) (.ref C_Paper) = some true)
    (s1_Whole_Whole : PySem.W.ks_superIn K C_Whole C_Whole "__init__" = some (some (.ref f1)))
    (s2_Whole_Whole : PySem.W.typeIn K (.ref f1) = some (.type "function"))
    (s3_Whole_Whole : PySem.W.fnIn K f1 = true)
    (s4_Whole_Whole : PySem.W.mroIn K C_Whole (.ref C_Whole) = some true)
    (n_Whole_number : NoAttr K C_Whole "number")
    (i_Whole_ByPower : PySem.W.kitOne K (.ref C_Whole) (.ref C_ByPower) = some false)
    (i_Whole_Between : PySem.W.kitOne K (.ref C_Whole) (.ref C_Between) = some false)
    (io_Whole_list : PySem.W.kitOne K (.ref C_Whole) (.type "list") = some false)
    (io_Whole_tuple : PySem.W.kitOne K (.ref C_Whole) (.type "tuple") = some false)
    (io_Whole_int : PySem.W.kitOne K (.ref C_Whole) (.type "int") = some false)
    (io_Whole_bool : PySem.W.kitOne K (.ref C_Whole) (.type "bool") = some false)
    (mk1_NoWhole : PySem.W.makesIn K C_NoWhole = true)
    (mk2_NoWhole : PySem.W.findIn K (.ref C_NoWhole) "__init__" = some (some (.ref f5)))
    (mk3_NoWhole : PySem.W.isFn K (.ref f5) = true)
    (mk4_NoWhole : PySem.W.keepIn K (.ref C_NoWhole) = true)
    (p1_NoWhole : PySem.W.plainGet K C_NoWhole Str.empty = true)
    (p2_NoWhole : PySem.W.hasDictIn K C_NoWhole = true)
    (p3_NoWhole : PySem.W.plainOver K C_NoWhole = true)
    (p4_NoWhole : PySem.W.findIn K (.ref C_NoWhole) "__setattr__" = some (some (.builtin "object.__setattr__")))
    (p5_NoWhole : PySem.W.plainGet K C_NoWhole "__class__" = true)
    (p6_NoWhole : PySem.W.findIn K (.ref C_NoWhole) "__class__" = some (some (.builtin "object.__class__")))
    (p7_NoWhole : PySem.W.mroIn K C_NoWhole (.type "object") = some true)
    {odN_NoWhole : Option Addr} {cdN_NoWhole : ClassData} {slN_NoWhole : Array (Option Value)} {tkN_NoWhole : Tok}
    (p8_NoWhole : PySem.W.readsIn K C_NoWhole (.type "type") = true)
    (p9_NoWhole : PySem.W.findCls K (.ref C_NoWhole) (.type "type") "__name__" = some (.get (.builtin "getset_descriptor.__get__") (.builtin "type.__name__") (.ref C_NoWhole) (.type "type")))
    (p10_NoWhole : K.lookup C_NoWhole = some ⟨.type "type", odN_NoWhole, .cls cdN_NoWhole, slN_NoWhole⟩)
    (p11_NoWhole : slN_NoWhole[2]? = some (some (.str "NoWhole" tkN_NoWhole)))
    (p12_NoWhole : NoAttr K C_NoWhole "word")
    (p13_NoWhole : NoAttr K C_NoWhole "parts")
    (p14_NoWhole : PySem.W.kitOne K (.ref C_NoWhole) (.ref C_Paper) = some true)
    (s1_NoWhole_NoWhole : PySem.W.ks_superIn K C_NoWhole C_NoWhole "__init__" = some (some (.ref f1)))
    (s2_NoWhole_NoWhole : PySem.W.typeIn K (.ref f1) = some (.type "function"))
    (s3_NoWhole_NoWhole : PySem.W.fnIn K f1 = true)
    (s4_NoWhole_NoWhole : PySem.W.mroIn K C_NoWhole (.ref C_NoWhole) = some true)
    (n_NoWhole_low : NoAttr K C_NoWhole "low")
    (i_NoWhole_ByPower : PySem.W.kitOne K (.ref C_NoWhole) (.ref C_ByPower) = some false)
    (i_NoWhole_Between : PySem.W.kitOne K (.ref C_NoWhole) (.ref C_Between) = some false)
    (io_NoWhole_list : PySem.W.kitOne K (.ref C_NoWhole) (.type "list") = some false)
    (io_NoWhole_tuple : PySem.W.kitOne K (.ref C_NoWhole) (.type "tuple") = some false)
    (io_NoWhole_int : PySem.W.kitOne K (.ref C_NoWhole) (.type "int") = some false)
    (io_NoWhole_bool : PySem.W.kitOne K (.ref C_NoWhole) (.type "bool") = some false)
    (mk1_Paper : PySem.W.makesIn K C_Paper = true)
    (mk2_Paper : PySem.W.findIn K (.ref C_Paper) "__init__" = some (some (.ref f1)))
    (mk3_Paper : PySem.W.isFn K (.ref f1) = true)
    (mk4_Paper : PySem.W.keepIn K (.ref C_Paper) = true)
    (p1_Paper : PySem.W.plainGet K C_Paper Str.empty = true)
    (p2_Paper : PySem.W.hasDictIn K C_Paper = true)
    (p3_Paper : PySem.W.plainOver K C_Paper = true)
    (p4_Paper : PySem.W.findIn K (.ref C_Paper) "__setattr__" = some (some (.builtin "object.__setattr__")))
    (p5_Paper : PySem.W.plainGet K C_Paper "__class__" = true)
    (p6_Paper : PySem.W.findIn K (.ref C_Paper) "__class__" = some (some (.builtin "object.__class__")))
    (p7_Paper : PySem.W.mroIn K C_Paper (.type "object") = some true)
    {odN_Paper : Option Addr} {cdN_Paper : ClassData} {slN_Paper : Array (Option Value)} {tkN_Paper : Tok}
    (p8_Paper : PySem.W.readsIn K C_Paper (.type "type") = true)
    (p9_Paper : PySem.W.findCls K (.ref C_Paper) (.type "type") "__name__" = some (.get (.builtin "getset_descriptor.__get__") (.builtin "type.__name__") (.ref C_Paper) (.type "type")))
    (p10_Paper : K.lookup C_Paper = some ⟨.type "type", odN_Paper, .cls cdN_Paper, slN_Paper⟩)
    (p11_Paper : slN_Paper[2]? = some (some (.str "Paper" tkN_Paper)))
    (p12_Paper : NoAttr K C_Paper "word")
    (p13_Paper : NoAttr K C_Paper "parts")
    (p14_Paper : PySem.W.kitOne K (.ref C_Paper) (.ref C_Paper) = some true)
    (i_Paper_ByPower : PySem.W.kitOne K (.ref C_Paper) (.ref C_ByPower) = some false)
    (i_Paper_Between : PySem.W.kitOne K (.ref C_Paper) (.ref C_Between) = some false)
    (io_Paper_list : PySem.W.kitOne K (.ref C_Paper) (.type "list") = some false)
    (io_Paper_tuple : PySem.W.kitOne K (.ref C_Paper) (.type "tuple") = some false)
    (io_Paper_int : PySem.W.kitOne K (.ref C_Paper) (.type "int") = some false)
    (io_Paper_bool : PySem.W.kitOne K (.ref C_Paper) (.type "bool") = some false)
    (mk1_Denial : PySem.W.makesIn K C_Denial = true)
    (mk2_Denial : PySem.W.findIn K (.ref C_Denial) "__init__" = some (some (.ref f1)))
    (mk3_Denial : PySem.W.isFn K (.ref f1) = true)
    (mk4_Denial : PySem.W.keepIn K (.ref C_Denial) = true)
    (p1_Denial : PySem.W.plainGet K C_Denial Str.empty = true)
    (p2_Denial : PySem.W.hasDictIn K C_Denial = true)
    (p3_Denial : PySem.W.plainOver K C_Denial = true)
    (p4_Denial : PySem.W.findIn K (.ref C_Denial) "__setattr__" = some (some (.builtin "object.__setattr__")))
    (p5_Denial : PySem.W.plainGet K C_Denial "__class__" = true)
    (p6_Denial : PySem.W.findIn K (.ref C_Denial) "__class__" = some (some (.builtin "object.__class__")))
    (p7_Denial : PySem.W.mroIn K C_Denial (.type "object") = some true)
    {odN_Denial : Option Addr} {cdN_Denial : ClassData} {slN_Denial : Array (Option Value)} {tkN_Denial : Tok}
    (p8_Denial : PySem.W.readsIn K C_Denial (.type "type") = true)
    (p9_Denial : PySem.W.findCls K (.ref C_Denial) (.type "type") "__name__" = some (.get (.builtin "getset_descriptor.__get__") (.builtin "type.__name__") (.ref C_Denial) (.type "type")))
    (p10_Denial : K.lookup C_Denial = some ⟨.type "type", odN_Denial, .cls cdN_Denial, slN_Denial⟩)
    (p11_Denial : slN_Denial[2]? = some (some (.str "Denial" tkN_Denial)))
    (p12_Denial : NoAttr K C_Denial "word")
    (p13_Denial : NoAttr K C_Denial "parts")
    (p14_Denial : PySem.W.kitOne K (.ref C_Denial) (.ref C_Paper) = some true)
    (i_Denial_ByPower : PySem.W.kitOne K (.ref C_Denial) (.ref C_ByPower) = some false)
    (i_Denial_Between : PySem.W.kitOne K (.ref C_Denial) (.ref C_Between) = some false)
    (io_Denial_list : PySem.W.kitOne K (.ref C_Denial) (.type "list") = some false)
    (io_Denial_tuple : PySem.W.kitOne K (.ref C_Denial) (.type "tuple") = some false)
    (io_Denial_int : PySem.W.kitOne K (.ref C_Denial) (.type "int") = some false)
    (io_Denial_bool : PySem.W.kitOne K (.ref C_Denial) (.type "bool") = some false)
    (ib_NoneType_ByPower : PySem.W.kitOne K (.type "NoneType") (.ref C_ByPower) = some false)
    (ib_NoneType_Between : PySem.W.kitOne K (.type "NoneType") (.ref C_Between) = some false)
    (ib_bool_ByPower : PySem.W.kitOne K (.type "bool") (.ref C_ByPower) = some false)
    (ib_bool_Between : PySem.W.kitOne K (.type "bool") (.ref C_Between) = some false)
    (ib_int_ByPower : PySem.W.kitOne K (.type "int") (.ref C_ByPower) = some false)
    (ib_int_Between : PySem.W.kitOne K (.type "int") (.ref C_Between) = some false)
    (ib_str_ByPower : PySem.W.kitOne K (.type "str") (.ref C_ByPower) = some false)
    (ib_str_Between : PySem.W.kitOne K (.type "str") (.ref C_Between) = some false)
    (ib_list_ByPower : PySem.W.kitOne K (.type "list") (.ref C_ByPower) = some false)
    (ib_list_Between : PySem.W.kitOne K (.type "list") (.ref C_Between) = some false)
    (ib_tuple_ByPower : PySem.W.kitOne K (.type "tuple") (.ref C_ByPower) = some false)
    (ib_tuple_Between : PySem.W.kitOne K (.type "tuple") (.ref C_Between) = some false)
    (z_abs : PySem.W.nsIn K mainGlobals "abs" = some none)
    (z_bool : PySem.W.nsIn K mainGlobals "bool" = some none)
    (z_int : PySem.W.nsIn K mainGlobals "int" = some none)
    (z_isinstance : PySem.W.nsIn K mainGlobals "isinstance" = some none)
    (z_len : PySem.W.nsIn K mainGlobals "len" = some none)
    (z_list : PySem.W.nsIn K mainGlobals "list" = some none)
    (z_range : PySem.W.nsIn K mainGlobals "range" = some none)
    (z_set : PySem.W.nsIn K mainGlobals "set" = some none)
    (z_sorted : PySem.W.nsIn K mainGlobals "sorted" = some none)
    (z_str : PySem.W.nsIn K mainGlobals "str" = some none)
    (z_tuple : PySem.W.nsIn K mainGlobals "tuple" = some none)
    {t_MOST_TOLD : Tok} (c_MOST_TOLD : PySem.W.nsIn K mainGlobals "MOST_TOLD" = some (some (.int 99 t_MOST_TOLD)))
    {t_MOST_POWER : Tok} (c_MOST_POWER : PySem.W.nsIn K mainGlobals "MOST_POWER" = some (some (.int 80 t_MOST_POWER))) :
    ∃ fd : FuncData, (∀ (s : Shared) (v : Value), BindsTo s fd ⟨[v], []⟩ [("script", v)]) ∧ ∀ base : Heap, K.In base → base.Ns mainGlobals mg → FnOk l.prog w K mg base CX0 8 fa fd ["script"] (sp_law K) := by
  have e := hfa.symm.trans (PySem.W.mg_of X G a33)
  cases e
  have F0 := fun_mk (st := s_fixed) l0 c0 k0
  have b0 := F0.binds (ps := ["value"]) fun _ _ _ _ _ _ us hl => match us, hl with | [_], _ => rfl
  have F2 := fun_mk (st := s_is_integer) l2 c2 k2
  have b2 := F2.binds (ps := ["value"]) fun _ _ _ _ _ _ us hl => match us, hl with | [_], _ => rfl
  have F3 := fun_mk (st := s_is_within) l3 c3 k3
  have b3 := F3.binds (ps := ["value", "least", "most"]) fun _ _ _ _ _ _ us hl => match us, hl with | [_, _, _], _ => rfl
  have F6 := fun_mk (st := s_need_number) l6 c6 k6
  have b6 := F6.binds (ps := ["value", "part", "least", "most"]) fun _ _ _ _ _ _ us hl => match us, hl with | [_, _, _, _], _ => rfl
  have F7 := fun_mk (st := s_raised) l7 c7 k7
  have b7 := F7.binds (ps := ["number", "many"]) fun _ _ _ _ _ _ us hl => match us, hl with | [_, _], _ => rfl
  have F8 := fun_mk (st := s_lifted) l8 c8 k8
  have b8 := F8.binds (ps := ["a", "b", "c", "d", "power"]) fun _ _ _ _ _ _ us hl => match us, hl with | [_, _, _, _, _], _ => rfl
  have F9 := fun_mk (st := s_sum_at) l9 c9 k9
  have b9 := F9.binds (ps := ["a", "b", "c", "d", "power"]) fun _ _ _ _ _ _ us hl => match us, hl with | [_, _, _, _, _], _ => rfl
  have F10 := fun_mk (st := s_holds_by) l10 c10 k10
  have b10 := F10.binds (ps := ["a", "b", "c", "d", "power"]) fun _ _ _ _ _ _ us hl => match us, hl with | [_, _, _, _, _], _ => rfl
  have F13 := fun_mk (st := s_need_growing) l13 c13 k13
  have b13 := F13.binds (ps := ["a", "b", "c", "d"]) fun _ _ _ _ _ _ us hl => match us, hl with | [_, _, _, _], _ => rfl
  have F14 := fun_mk (st := s_least_step) l14 c14 k14
  have b14 := F14.binds (ps := ["a", "b", "c", "d", "side"]) fun _ _ _ _ _ _ us hl => match us, hl with | [_, _, _, _, _], _ => rfl
  have F15 := fun_mk (st := s_power_of) l15 c15 k15
  have b15 := F15.binds (ps := ["a", "b", "c", "d"]) fun _ _ _ _ _ _ us hl => match us, hl with | [_, _, _, _], _ => rfl
  have F17 := fun_mk (st := s_is_between) l17 c17 k17
  have b17 := F17.binds (ps := ["a", "b", "c", "d", "low"]) fun _ _ _ _ _ _ us hl => match us, hl with | [_, _, _, _, _], _ => rfl
  have F18 := fun_mk (st := s_shows_power) l18 c18 k18
  have b18 := F18.binds (ps := ["a", "b", "c", "d", "value"]) fun _ _ _ _ _ _ us hl => match us, hl with | [_, _, _, _, _], _ => rfl
  have kb_shows_power_value_a_b_c_d := HB.kb_mk (K := K) (fd := PySem.W.fnOf "shows_power" "shows_power" (defArgs s_shows_power) (defBody s_shows_power) (defScope s_shows_power) .none kV18 dc18 pm18 an18 cd18 ct18) (ps := ["a", "b", "c", "d", "value"]) (ks := ["value", "a", "b", "c", "d"]) (idx := [1, 2, 3, 4, 0]) (by rfl) (fun ws hl => match ws, hl with | [_, _, _, _, _], _ => rfl) HB.perm_rel
  have F19 := fun_mk (st := s__law_hat) l19 c19 k19
  have b19 := F19.binds (ps := ["script"]) fun _ _ _ _ _ _ us hl => match us, hl with | [_], _ => rfl
  have F20 := fun_mk (st := s__law_lot) l20 c20 k20
  have b20 := F20.binds (ps := ["hat", "many"]) fun _ _ _ _ _ _ us hl => match us, hl with | [_, _], _ => rfl
  have F21 := fun_mk (st := s__law_one) l21 c21 k21
  have b21 := F21.binds (ps := ["hat", "some"]) fun _ _ _ _ _ _ us hl => match us, hl with | [_, _], _ => rfl
  have F22 := fun_mk (st := s__law_any) l22 c22 k22
  have b22 := F22.binds (ps := ["hat"]) fun _ _ _ _ _ _ us hl => match us, hl with | [_], _ => rfl
  have F23 := fun_mk (st := s__law_grows) l23 c23 k23
  have b23 := F23.binds (ps := ["four"]) fun _ _ _ _ _ _ us hl => match us, hl with | [_], _ => rfl
  have F24 := fun_mk (st := s__law_planted) l24 c24 k24
  have b24 := F24.binds (ps := ["hat"]) fun _ _ _ _ _ _ us hl => match us, hl with | [_], _ => rfl
  have F25 := fun_mk (st := s__law_four) l25 c25 k25
  have b25 := F25.binds (ps := ["hat"]) fun _ _ _ _ _ _ us hl => match us, hl with | [_], _ => rfl
  have F26 := fun_mk (st := s__law_raised) l26 c26 k26
  have b26 := F26.binds (ps := ["number", "many"]) fun _ _ _ _ _ _ us hl => match us, hl with | [_, _], _ => rfl
  have F27 := fun_mk (st := s__law_sum) l27 c27 k27
  have b27 := F27.binds (ps := ["a", "b", "c", "d", "power"]) fun _ _ _ _ _ _ us hl => match us, hl with | [_, _, _, _, _], _ => rfl
  have F28 := fun_mk (st := s__law_is_by) l28 c28 k28
  have b28 := F28.binds (ps := ["a", "b", "c", "d", "power"]) fun _ _ _ _ _ _ us hl => match us, hl with | [_, _, _, _, _], _ => rfl
  have F29 := fun_mk (st := s__law_is_whole) l29 c29 k29
  have b29 := F29.binds (ps := ["value", "least", "most"]) fun _ _ _ _ _ _ us hl => match us, hl with | [_, _, _], _ => rfl
  have F30 := fun_mk (st := s__law_lies_between) l30 c30 k30
  have b30 := F30.binds (ps := ["a", "b", "c", "d", "low"]) fun _ _ _ _ _ _ us hl => match us, hl with | [_, _, _, _, _], _ => rfl
  have F31 := fun_mk (st := s__law_is_power) l31 c31 k31
  have b31 := F31.binds (ps := ["a", "b", "c", "d", "power"]) fun _ _ _ _ _ _ us hl => match us, hl with | [_, _, _, _, _], _ => rfl
  have F32 := fun_mk (st := s__law_values) l32 c32 k32
  have b32 := F32.binds (ps := ["hat", "at"]) fun _ _ _ _ _ _ us hl => match us, hl with | [_, _], _ => rfl
  have F33 := fun_mk (st := s_law) l33 c33 k33
  have b33 := F33.binds (ps := ["script"]) fun _ _ _ _ _ _ us hl => match us, hl with | [_], _ => rfl
  let T : Tx l.prog K mg := {
    C_Paper := C_Paper
    g_Paper := PySem.W.mg_of X G a_Paper
    C_Whole := C_Whole
    g_Whole := PySem.W.mg_of X G a_Whole
    C_Denial := C_Denial
    g_Denial := PySem.W.mg_of X G a_Denial
    C_NoWhole := C_NoWhole
    g_NoWhole := PySem.W.mg_of X G a_NoWhole
    C_ByPower := C_ByPower
    g_ByPower := PySem.W.mg_of X G a_ByPower
    C_Between := C_Between
    g_Between := PySem.W.mg_of X G a_Between
    C_Uneven := C_Uneven
    g_Uneven := PySem.W.mg_of X G a_Uneven
    f_fixed := _
    fd_fixed := _
    F_fixed := F0
    b_fixed := b0
    g_fixed := PySem.W.mg_of X G a0
    f_Paper_init := f1
    SF_Paper_init := ⟨⟨oc1, od1, .none, kV1, dc1, pm1, an1, cd1, ct1, sl1, l1, c1, StX.bind_star2 (B := fun xs => bindArgs (PySem.W.fnOf "__init__" "Paper.__init__" (defArgs s_Paper_init) (defBody s_Paper_init) (defScope s_Paper_init) .none kV1 dc1 pm1 an1 cd1 ct1) ⟨xs, []⟩) (fun _ _ => rfl) (fun _ _ _ _ => rfl)⟩⟩
    f_is_integer := _
    fd_is_integer := _
    F_is_integer := F2
    b_is_integer := b2
    g_is_integer := PySem.W.mg_of X G a2
    f_is_within := _
    fd_is_within := _
    F_is_within := F3
    b_is_within := b3
    g_is_within := PySem.W.mg_of X G a3
    f_Whole_init := f4
    cc_Whole_init := cc4
    ca_Whole_init := ca4
    SD_Whole_init := ⟨⟨oc4, od4, .none, kV4, dc4, pm4, ct4, an4, sl4, l4, fun us hl => match us, hl with | [_, _], _ => (by kernel_rfl), fun us hl => match us, hl with | [_, _], _ => (by kernel_rfl)⟩, c4, rfl, ⟨xcl4, xcd4, xvs4, xcs4, file4, tf4, x4, u4, v4⟩, ⟨ycl4, ycd4, ycs4, y4⟩, ⟨_, w4⟩, PySem.W.mg_none_of X G z_super, t_super⟩
    f_NoWhole_init := f5
    cc_NoWhole_init := cc5
    ca_NoWhole_init := ca5
    SD_NoWhole_init := ⟨⟨oc5, od5, .none, kV5, dc5, pm5, ct5, an5, sl5, l5, fun us hl => match us, hl with | [_, _], _ => (by kernel_rfl), fun us hl => match us, hl with | [_, _], _ => (by kernel_rfl)⟩, c5, rfl, ⟨xcl5, xcd5, xvs5, xcs5, file5, tf5, x5, u5, v5⟩, ⟨ycl5, ycd5, ycs5, y5⟩, ⟨_, w5⟩, PySem.W.mg_none_of X G z_super, t_super⟩
    f_need_number := _
    fd_need_number := _
    F_need_number := F6
    b_need_number := b6
    g_need_number := PySem.W.mg_of X G a6
    f_raised := _
    fd_raised := _
    F_raised := F7
    b_raised := b7
    g_raised := PySem.W.mg_of X G a7
    f_lifted := _
    fd_lifted := _
    F_lifted := F8
    b_lifted := b8
    g_lifted := PySem.W.mg_of X G a8
    f_sum_at := _
    fd_sum_at := _
    F_sum_at := F9
    b_sum_at := b9
    g_sum_at := PySem.W.mg_of X G a9
    f_holds_by := _
    fd_holds_by := _
    F_holds_by := F10
    b_holds_by := b10
    g_holds_by := PySem.W.mg_of X G a10
    f_ByPower_init := f11
    cc_ByPower_init := cc11
    ca_ByPower_init := ca11
    SD_ByPower_init := ⟨⟨oc11, od11, .none, kV11, dc11, pm11, ct11, an11, sl11, l11, fun us hl => match us, hl with | [_, _], _ => (by kernel_rfl), fun us hl => match us, hl with | [_, _], _ => (by kernel_rfl)⟩, c11, rfl, ⟨xcl11, xcd11, xvs11, xcs11, file11, tf11, x11, u11, v11⟩, ⟨ycl11, ycd11, ycs11, y11⟩, ⟨_, w11⟩, PySem.W.mg_none_of X G z_super, t_super⟩
    f_Between_init := f12
    cc_Between_init := cc12
    ca_Between_init := ca12
    SD_Between_init := ⟨⟨oc12, od12, .none, kV12, dc12, pm12, ct12, an12, sl12, l12, fun us hl => match us, hl with | [_, _], _ => (by kernel_rfl), fun us hl => match us, hl with | [_, _], _ => (by kernel_rfl)⟩, c12, rfl, ⟨xcl12, xcd12, xvs12, xcs12, file12, tf12, x12, u12, v12⟩, ⟨ycl12, ycd12, ycs12, y12⟩, ⟨_, w12⟩, PySem.W.mg_none_of X G z_super, t_super⟩
    f_need_growing := _
    fd_need_growing := _
    F_need_growing := F13
    b_need_growing := b13
    g_need_growing := PySem.W.mg_of X G a13
    f_least_step := _
    fd_least_step := _
    F_least_step := F14
    b_least_step := b14
    g_least_step := PySem.W.mg_of X G a14
    f_power_of := _
    fd_power_of := _
    F_power_of := F15
    b_power_of := b15
    g_power_of := PySem.W.mg_of X G a15
    f_Uneven_init := f16
    cc_Uneven_init := cc16
    ca_Uneven_init := ca16
    SD_Uneven_init := ⟨⟨oc16, od16, .none, kV16, dc16, pm16, ct16, an16, sl16, l16, fun us hl => match us, hl with | [_, _], _ => (by kernel_rfl), fun us hl => match us, hl with | [_, _], _ => (by kernel_rfl)⟩, c16, rfl, ⟨xcl16, xcd16, xvs16, xcs16, file16, tf16, x16, u16, v16⟩, ⟨ycl16, ycd16, ycs16, y16⟩, ⟨_, w16⟩, PySem.W.mg_none_of X G z_super, t_super⟩
    f_is_between := _
    fd_is_between := _
    F_is_between := F17
    b_is_between := b17
    g_is_between := PySem.W.mg_of X G a17
    f_shows_power := _
    fd_shows_power := _
    F_shows_power := F18
    b_shows_power := b18
    g_shows_power := PySem.W.mg_of X G a18
    kb_shows_power_value_a_b_c_d := kb_shows_power_value_a_b_c_d
    f__law_hat := _
    fd__law_hat := _
    F__law_hat := F19
    b__law_hat := b19
    g__law_hat := PySem.W.mg_of X G a19
    f__law_lot := _
    fd__law_lot := _
    F__law_lot := F20
    b__law_lot := b20
    g__law_lot := PySem.W.mg_of X G a20
    f__law_one := _
    fd__law_one := _
    F__law_one := F21
    b__law_one := b21
    g__law_one := PySem.W.mg_of X G a21
    f__law_any := _
    fd__law_any := _
    F__law_any := F22
    b__law_any := b22
    g__law_any := PySem.W.mg_of X G a22
    f__law_grows := _
    fd__law_grows := _
    F__law_grows := F23
    b__law_grows := b23
    g__law_grows := PySem.W.mg_of X G a23
    f__law_planted := _
    fd__law_planted := _
    F__law_planted := F24
    b__law_planted := b24
    g__law_planted := PySem.W.mg_of X G a24
    f__law_four := _
    fd__law_four := _
    F__law_four := F25
    b__law_four := b25
    g__law_four := PySem.W.mg_of X G a25
    f__law_raised := _
    fd__law_raised := _
    F__law_raised := F26
    b__law_raised := b26
    g__law_raised := PySem.W.mg_of X G a26
    f__law_sum := _
    fd__law_sum := _
    F__law_sum := F27
    b__law_sum := b27
    g__law_sum := PySem.W.mg_of X G a27
    f__law_is_by := _
    fd__law_is_by := _
    F__law_is_by := F28
    b__law_is_by := b28
    g__law_is_by := PySem.W.mg_of X G a28
    f__law_is_whole := _
    fd__law_is_whole := _
    F__law_is_whole := F29
    b__law_is_whole := b29
    g__law_is_whole := PySem.W.mg_of X G a29
    f__law_lies_between := _
    fd__law_lies_between := _
    F__law_lies_between := F30
    b__law_lies_between := b30
    g__law_lies_between := PySem.W.mg_of X G a30
    f__law_is_power := _
    fd__law_is_power := _
    F__law_is_power := F31
    b__law_is_power := b31
    g__law_is_power := PySem.W.mg_of X G a31
    f__law_values := _
    fd__law_values := _
    F__law_values := F32
    b__law_values := b32
    g__law_values := PySem.W.mg_of X G a32
    f_law := _
    fd_law := _
    F_law := F33
    b_law := b33
    g_law := PySem.W.mg_of X G a33
    mk_Between := ⟨mk1_Between, mk2_Between, mk3_Between, mk4_Between⟩
    pc_Between := ⟨⟨p1_Between, p2_Between, p3_Between, p4_Between⟩, ⟨p5_Between, p2_Between, p6_Between, oG, oT, p7_Between⟩, ⟨p8_Between, p9_Between, ⟨_, _, _, _, p10_Between, p11_Between⟩⟩, p12_Between, p13_Between, p14_Between⟩
    su_Between_Between := ⟨s1_Between_Between, s2_Between_Between, s3_Between_Between, s4_Between_Between, oS⟩
    na_Between_low := n_Between_low
    is_Between_ByPower := i_Between_ByPower
    is_Between_Between := i_Between_Between
    io_Between_list := io_Between_list
    io_Between_tuple := io_Between_tuple
    io_Between_int := io_Between_int
    io_Between_bool := io_Between_bool
    mk_ByPower := ⟨mk1_ByPower, mk2_ByPower, mk3_ByPower, mk4_ByPower⟩
    pc_ByPower := ⟨⟨p1_ByPower, p2_ByPower, p3_ByPower, p4_ByPower⟩, ⟨p5_ByPower, p2_ByPower, p6_ByPower, oG, oT, p7_ByPower⟩, ⟨p8_ByPower, p9_ByPower, ⟨_, _, _, _, p10_ByPower, p11_ByPower⟩⟩, p12_ByPower, p13_ByPower, p14_ByPower⟩
    su_ByPower_ByPower := ⟨s1_ByPower_ByPower, s2_ByPower_ByPower, s3_ByPower_ByPower, s4_ByPower_ByPower, oS⟩
    na_ByPower_power := n_ByPower_power
    is_ByPower_ByPower := i_ByPower_ByPower
    is_ByPower_Between := i_ByPower_Between
    io_ByPower_list := io_ByPower_list
    io_ByPower_tuple := io_ByPower_tuple
    io_ByPower_int := io_ByPower_int
    io_ByPower_bool := io_ByPower_bool
    mk_Uneven := ⟨mk1_Uneven, mk2_Uneven, mk3_Uneven, mk4_Uneven⟩
    pc_Uneven := ⟨⟨p1_Uneven, p2_Uneven, p3_Uneven, p4_Uneven⟩, ⟨p5_Uneven, p2_Uneven, p6_Uneven, oG, oT, p7_Uneven⟩, ⟨p8_Uneven, p9_Uneven, ⟨_, _, _, _, p10_Uneven, p11_Uneven⟩⟩, p12_Uneven, p13_Uneven, p14_Uneven⟩
    su_Uneven_Uneven := ⟨s1_Uneven_Uneven, s2_Uneven_Uneven, s3_Uneven_Uneven, s4_Uneven_Uneven, oS⟩
    na_Uneven_step := n_Uneven_step
    is_Uneven_ByPower := i_Uneven_ByPower
    is_Uneven_Between := i_Uneven_Between
    io_Uneven_list := io_Uneven_list
    io_Uneven_tuple := io_Uneven_tuple
    io_Uneven_int := io_Uneven_int
    io_Uneven_bool := io_Uneven_bool
    mk_Whole := ⟨mk1_Whole, mk2_Whole, mk3_Whole, mk4_Whole⟩
    pc_Whole := ⟨⟨p1_Whole, p2_Whole, p3_Whole, p4_Whole⟩, ⟨p5_Whole, p2_Whole, p6_Whole, oG, oT, p7_Whole⟩, ⟨p8_Whole, p9_Whole, ⟨_, _, _, _, p10_Whole, p11_Whole⟩⟩, p12_Whole, p13_Whole, p14_Whole⟩
    su_Whole_Whole := ⟨s1_Whole_Whole, s2_Whole_Whole, s3_Whole_Whole, s4_Whole_Whole, oS⟩
    na_Whole_number := n_Whole_number
    is_Whole_ByPower := i_Whole_ByPower
    is_Whole_Between := i_Whole_Between
    io_Whole_list := io_Whole_list
    io_Whole_tuple := io_Whole_tuple
    io_Whole_int := io_Whole_int
    io_Whole_bool := io_Whole_bool
    mk_NoWhole := ⟨mk1_NoWhole, mk2_NoWhole, mk3_NoWhole, mk4_NoWhole⟩
    pc_NoWhole := ⟨⟨p1_NoWhole, p2_NoWhole, p3_NoWhole, p4_NoWhole⟩, ⟨p5_NoWhole, p2_NoWhole, p6_NoWhole, oG, oT, p7_NoWhole⟩, ⟨p8_NoWhole, p9_NoWhole, ⟨_, _, _, _, p10_NoWhole, p11_NoWhole⟩⟩, p12_NoWhole, p13_NoWhole, p14_NoWhole⟩
    su_NoWhole_NoWhole := ⟨s1_NoWhole_NoWhole, s2_NoWhole_NoWhole, s3_NoWhole_NoWhole, s4_NoWhole_NoWhole, oS⟩
    na_NoWhole_low := n_NoWhole_low
    is_NoWhole_ByPower := i_NoWhole_ByPower
    is_NoWhole_Between := i_NoWhole_Between
    io_NoWhole_list := io_NoWhole_list
    io_NoWhole_tuple := io_NoWhole_tuple
    io_NoWhole_int := io_NoWhole_int
    io_NoWhole_bool := io_NoWhole_bool
    mk_Paper := ⟨mk1_Paper, mk2_Paper, mk3_Paper, mk4_Paper⟩
    pc_Paper := ⟨⟨p1_Paper, p2_Paper, p3_Paper, p4_Paper⟩, ⟨p5_Paper, p2_Paper, p6_Paper, oG, oT, p7_Paper⟩, ⟨p8_Paper, p9_Paper, ⟨_, _, _, _, p10_Paper, p11_Paper⟩⟩, p12_Paper, p13_Paper, p14_Paper⟩
    is_Paper_ByPower := i_Paper_ByPower
    is_Paper_Between := i_Paper_Between
    io_Paper_list := io_Paper_list
    io_Paper_tuple := io_Paper_tuple
    io_Paper_int := io_Paper_int
    io_Paper_bool := io_Paper_bool
    mk_Denial := ⟨mk1_Denial, mk2_Denial, mk3_Denial, mk4_Denial⟩
    pc_Denial := ⟨⟨p1_Denial, p2_Denial, p3_Denial, p4_Denial⟩, ⟨p5_Denial, p2_Denial, p6_Denial, oG, oT, p7_Denial⟩, ⟨p8_Denial, p9_Denial, ⟨_, _, _, _, p10_Denial, p11_Denial⟩⟩, p12_Denial, p13_Denial, p14_Denial⟩
    is_Denial_ByPower := i_Denial_ByPower
    is_Denial_Between := i_Denial_Between
    io_Denial_list := io_Denial_list
    io_Denial_tuple := io_Denial_tuple
    io_Denial_int := io_Denial_int
    io_Denial_bool := io_Denial_bool
    ib_NoneType_ByPower := ib_NoneType_ByPower
    ib_NoneType_Between := ib_NoneType_Between
    ib_bool_ByPower := ib_bool_ByPower
    ib_bool_Between := ib_bool_Between
    ib_int_ByPower := ib_int_ByPower
    ib_int_Between := ib_int_Between
    ib_str_ByPower := ib_str_ByPower
    ib_str_Between := ib_str_Between
    ib_list_ByPower := ib_list_ByPower
    ib_list_Between := ib_list_Between
    ib_tuple_ByPower := ib_tuple_ByPower
    ib_tuple_Between := ib_tuple_Between
    z_abs := PySem.W.mg_none_of X G z_abs
    z_bool := PySem.W.mg_none_of X G z_bool
    z_int := PySem.W.mg_none_of X G z_int
    z_isinstance := PySem.W.mg_none_of X G z_isinstance
    z_len := PySem.W.mg_none_of X G z_len
    z_list := PySem.W.mg_none_of X G z_list
    z_range := PySem.W.mg_none_of X G z_range
    z_set := PySem.W.mg_none_of X G z_set
    z_sorted := PySem.W.mg_none_of X G z_sorted
    z_str := PySem.W.mg_none_of X G z_str
    z_tuple := PySem.W.mg_none_of X G z_tuple
    t_MOST_TOLD := _
    c_MOST_TOLD := PySem.W.mg_of X G c_MOST_TOLD
    t_MOST_POWER := _
    c_MOST_POWER := PySem.W.mg_of X G c_MOST_POWER }
  exact ⟨PySem.W.fnOf "law" "law" (defArgs s_law) (defBody s_law) (defScope s_law) .none kV33 dc33 pm33 an33 cd33 ct33, fun s v => .of_eq rfl, fun base _ _ => ok_law T⟩
theorem facts {w : World} {K : PySem.W.Frag} {h : Heap} {mg : Str → Option Value} {fa : Addr} (X : K.In h) (G : h.Ns mainGlobals mg) (hfa : mg "law" = some (.ref fa)) (c : HHk.Says fs fn K) :
    ∃ fd : FuncData, (∀ (s : Shared) (v : Value), BindsTo s fd ⟨[v], []⟩ [("script", v)]) ∧ ∀ base : Heap, K.In base → base.Ns mainGlobals mg → FnOk PySem.Challenge.rw_fourthlike_k20_papers_on_powers_bent.prog w K mg base CX0 8 fa fd ["script"] (sp_law K) := by
  obtain ⟨_, _, _, _, _, _, _, _, _, l0, c0⟩ := HHk.plain (c.at_ 0) (c.fact 8)
  obtain ⟨_, _, _, _, _, _, _, _, _, l1, c1⟩ := HHk.plain (c.at_ 1) (c.fact 11)
  obtain ⟨_, _, _, _, _, _, _, _, _, l2, c2⟩ := HHk.plain (c.at_ 2) (c.fact 13)
  obtain ⟨_, _, _, _, _, _, _, _, _, l3, c3⟩ := HHk.plain (c.at_ 3) (c.fact 16)
  obtain ⟨_, _, _, _, _, _, _, _, _, _, _, _, _, _, _, _, _, _, _, _, l4, c4, x4, u4, v4, y4, w4⟩ := HHk.sup (c.at_ 4) (c.fact 19)
  obtain ⟨_, _, _, _, _, _, _, _, _, _, _, _, _, _, _, _, _, _, _, _, l5, c5, x5, u5, v5, y5, w5⟩ := HHk.sup (c.at_ 5) (c.fact 22)
  obtain ⟨_, _, _, _, _, _, _, _, _, l6, c6⟩ := HHk.plain (c.at_ 6) (c.fact 24)
  obtain ⟨_, _, _, _, _, _, _, _, _, l7, c7⟩ := HHk.plain (c.at_ 7) (c.fact 27)
  obtain ⟨_, _, _, _, _, _, _, _, _, l8, c8⟩ := HHk.plain (c.at_ 8) (c.fact 30)
  obtain ⟨_, _, _, _, _, _, _, _, _, l9, c9⟩ := HHk.plain (c.at_ 9) (c.fact 33)
  obtain ⟨_, _, _, _, _, _, _, _, _, l10, c10⟩ := HHk.plain (c.at_ 10) (c.fact 36)
  obtain ⟨_, _, _, _, _, _, _, _, _, _, _, _, _, _, _, _, _, _, _, _, l11, c11, x11, u11, v11, y11, w11⟩ := HHk.sup (c.at_ 11) (c.fact 39)
  obtain ⟨_, _, _, _, _, _, _, _, _, _, _, _, _, _, _, _, _, _, _, _, l12, c12, x12, u12, v12, y12, w12⟩ := HHk.sup (c.at_ 12) (c.fact 41)
  obtain ⟨_, _, _, _, _, _, _, _, _, l13, c13⟩ := HHk.plain (c.at_ 13) (c.fact 43)
  obtain ⟨_, _, _, _, _, _, _, _, _, l14, c14⟩ := HHk.plain (c.at_ 14) (c.fact 46)
  obtain ⟨_, _, _, _, _, _, _, _, _, l15, c15⟩ := HHk.plain (c.at_ 15) (c.fact 49)
  obtain ⟨_, _, _, _, _, _, _, _, _, _, _, _, _, _, _, _, _, _, _, _, l16, c16, x16, u16, v16, y16, w16⟩ := HHk.sup (c.at_ 16) (c.fact 52)
  obtain ⟨_, _, _, _, _, _, _, _, _, l17, c17⟩ := HHk.plain (c.at_ 17) (c.fact 54)
  obtain ⟨_, _, _, _, _, _, _, _, _, l18, c18⟩ := HHk.plain (c.at_ 18) (c.fact 57)
  obtain ⟨_, _, _, _, _, _, _, _, _, l19, c19⟩ := HHk.plain (c.at_ 19) (c.fact 60)
  obtain ⟨_, _, _, _, _, _, _, _, _, l20, c20⟩ := HHk.plain (c.at_ 20) (c.fact 63)
  obtain ⟨_, _, _, _, _, _, _, _, _, l21, c21⟩ := HHk.plain (c.at_ 21) (c.fact 66)
  obtain ⟨_, _, _, _, _, _, _, _, _, l22, c22⟩ := HHk.plain (c.at_ 22) (c.fact 69)
  obtain ⟨_, _, _, _, _, _, _, _, _, l23, c23⟩ := HHk.plain (c.at_ 23) (c.fact 72)
  obtain ⟨_, _, _, _, _, _, _, _, _, l24, c24⟩ := HHk.plain (c.at_ 24) (c.fact 75)
  obtain ⟨_, _, _, _, _, _, _, _, _, l25, c25⟩ := HHk.plain (c.at_ 25) (c.fact 78)
  obtain ⟨_, _, _, _, _, _, _, _, _, l26, c26⟩ := HHk.plain (c.at_ 26) (c.fact 81)
  obtain ⟨_, _, _, _, _, _, _, _, _, l27, c27⟩ := HHk.plain (c.at_ 27) (c.fact 84)
  obtain ⟨_, _, _, _, _, _, _, _, _, l28, c28⟩ := HHk.plain (c.at_ 28) (c.fact 87)
  obtain ⟨_, _, _, _, _, _, _, _, _, l29, c29⟩ := HHk.plain (c.at_ 29) (c.fact 90)
  obtain ⟨_, _, _, _, _, _, _, _, _, l30, c30⟩ := HHk.plain (c.at_ 30) (c.fact 93)
  obtain ⟨_, _, _, _, _, _, _, _, _, l31, c31⟩ := HHk.plain (c.at_ 31) (c.fact 96)
  obtain ⟨_, _, _, _, _, _, _, _, _, l32, c32⟩ := HHk.plain (c.at_ 32) (c.fact 99)
  obtain ⟨_, _, _, _, _, _, _, _, _, l33, c33⟩ := HHk.plain (c.at_ 33) (c.fact 102)
  obtain ⟨_, _, _, _, p10_Between, p11_Between⟩ := HHk.cls (c.fact 120)
  obtain ⟨_, _, _, _, p10_ByPower, p11_ByPower⟩ := HHk.cls (c.fact 148)
  obtain ⟨_, _, _, _, p10_Uneven, p11_Uneven⟩ := HHk.cls (c.fact 176)
  obtain ⟨_, _, _, _, p10_Whole, p11_Whole⟩ := HHk.cls (c.fact 204)
  obtain ⟨_, _, _, _, p10_NoWhole, p11_NoWhole⟩ := HHk.cls (c.fact 232)
  obtain ⟨_, _, _, _, p10_Paper, p11_Paper⟩ := HHk.cls (c.fact 260)
  obtain ⟨_, _, _, _, p10_Denial, p11_Denial⟩ := HHk.cls (c.fact 283)
  obtain ⟨_, c_MOST_TOLD⟩ := HHk.intG (c.fact 316)
  obtain ⟨_, c_MOST_POWER⟩ := HHk.intG (c.fact 317)
  exact all_mk (l := PySem.Challenge.rw_fourthlike_k20_papers_on_powers_bent) (w := w) X G hfa (of_decide_eq_true (c.fact 0)) (of_decide_eq_true (c.fact 1)) (of_decide_eq_true (c.fact 2)) (of_decide_eq_true (c.fact 3)) (of_decide_eq_true (c.fact 4)) (of_decide_eq_true (c.fact 5)) (of_decide_eq_true (c.fact 6)) (of_decide_eq_true (c.fact 7)) l0 c0 (c.fact 9) (of_decide_eq_true (c.fact 10)) l1 c1 (of_decide_eq_true (c.fact 12)) l2 c2 (c.fact 14) (of_decide_eq_true (c.fact 15)) l3 c3 (c.fact 17) (of_decide_eq_true (c.fact 18)) l4 c4 x4 u4 v4 y4 w4 (of_decide_eq_true (c.fact 20)) (by first | rfl | decide +kernel) (of_decide_eq_true (c.fact 21)) l5 c5 x5 u5 v5 y5 w5 (of_decide_eq_true (c.fact 23)) l6 c6 (c.fact 25) (of_decide_eq_true (c.fact 26)) l7 c7 (c.fact 28) (of_decide_eq_true (c.fact 29)) l8 c8 (c.fact 31) (of_decide_eq_true (c.fact 32)) l9 c9 (c.fact 34) (of_decide_eq_true (c.fact 35)) l10 c10 (c.fact 37) (of_decide_eq_true (c.fact 38)) l11 c11 x11 u11 v11 y11 w11 (of_decide_eq_true (c.fact 40)) l12 c12 x12 u12 v12 y12 w12 (of_decide_eq_true (c.fact 42)) l13 c13 (c.fact 44) (of_decide_eq_true (c.fact 45)) l14 c14 (c.fact 47) (of_decide_eq_true (c.fact 48)) l15 c15 (c.fact 50) (of_decide_eq_true (c.fact 51)) l16 c16 x16 u16 v16 y16 w16 (of_decide_eq_true (c.fact 53)) l17 c17 (c.fact 55) (of_decide_eq_true (c.fact 56)) l18 c18 (c.fact 58) (of_decide_eq_true (c.fact 59)) l19 c19 (c.fact 61) (of_decide_eq_true (c.fact 62)) l20 c20 (c.fact 64) (of_decide_eq_true (c.fact 65)) l21 c21 (c.fact 67) (of_decide_eq_true (c.fact 68)) l22 c22 (c.fact 70) (of_decide_eq_true (c.fact 71)) l23 c23 (c.fact 73) (of_decide_eq_true (c.fact 74)) l24 c24 (c.fact 76) (of_decide_eq_true (c.fact 77)) l25 c25 (c.fact 79) (of_decide_eq_true (c.fact 80)) l26 c26 (c.fact 82) (of_decide_eq_true (c.fact 83)) l27 c27 (c.fact 85) (of_decide_eq_true (c.fact 86)) l28 c28 (c.fact 88) (of_decide_eq_true (c.fact 89)) l29 c29 (c.fact 91) (of_decide_eq_true (c.fact 92)) l30 c30 (c.fact 94) (of_decide_eq_true (c.fact 95)) l31 c31 (c.fact 97) (of_decide_eq_true (c.fact 98)) l32 c32 (c.fact 100) (of_decide_eq_true (c.fact 101)) l33 c33 (c.fact 103) (of_decide_eq_true (c.fact 104)) (of_decide_eq_true (c.fact 105)) (of_decide_eq_true (c.fact 106)) (c.fact 107) (of_decide_eq_true (c.fact 108)) (c.fact 109) (c.fact 110) (c.fact 111) (c.fact 112) (c.fact 113) (of_decide_eq_true (c.fact 114)) (c.fact 115) (of_decide_eq_true (c.fact 116)) (of_decide_eq_true (c.fact 117)) (c.fact 118) (HHk.getO_ok (c.fact 119)) p10_Between p11_Between (He.eqO_ok (c.fact 121)) (He.eqO_ok (c.fact 122)) (of_decide_eq_true (c.fact 123)) (of_decide_eq_true (c.fact 124)) (of_decide_eq_true (c.fact 125)) (c.fact 126) (of_decide_eq_true (c.fact 127)) (He.eqO_ok (c.fact 128)) (of_decide_eq_true (c.fact 129)) (of_decide_eq_true (c.fact 130)) (of_decide_eq_true (c.fact 131)) (of_decide_eq_true (c.fact 132)) (of_decide_eq_true (c.fact 133)) (of_decide_eq_true (c.fact 134)) (c.fact 135) (of_decide_eq_true (c.fact 136)) (c.fact 137) (c.fact 138) (c.fact 139) (c.fact 140) (c.fact 141) (of_decide_eq_true (c.fact 142)) (c.fact 143) (of_decide_eq_true (c.fact 144)) (of_decide_eq_true (c.fact 145)) (c.fact 146) (HHk.getO_ok (c.fact 147)) p10_ByPower p11_ByPower (He.eqO_ok (c.fact 149)) (He.eqO_ok (c.fact 150)) (of_decide_eq_true (c.fact 151)) (of_decide_eq_true (c.fact 152)) (of_decide_eq_true (c.fact 153)) (c.fact 154) (of_decide_eq_true (c.fact 155)) (He.eqO_ok (c.fact 156)) (of_decide_eq_true (c.fact 157)) (of_decide_eq_true (c.fact 158)) (of_decide_eq_true (c.fact 159)) (of_decide_eq_true (c.fact 160)) (of_decide_eq_true (c.fact 161)) (of_decide_eq_true (c.fact 162)) (c.fact 163) (of_decide_eq_true (c.fact 164)) (c.fact 165) (c.fact 166) (c.fact 167) (c.fact 168) (c.fact 169) (of_decide_eq_true (c.fact 170)) (c.fact 171) (of_decide_eq_true (c.fact 172)) (of_decide_eq_true (c.fact 173)) (c.fact 174) (HHk.getO_ok (c.fact 175)) p10_Uneven p11_Uneven (He.eqO_ok (c.fact 177)) (He.eqO_ok (c.fact 178)) (of_decide_eq_true (c.fact 179)) (of_decide_eq_true (c.fact 180)) (of_decide_eq_true (c.fact 181)) (c.fact 182) (of_decide_eq_true (c.fact 183)) (He.eqO_ok (c.fact 184)) (of_decide_eq_true (c.fact 185)) (of_decide_eq_true (c.fact 186)) (of_decide_eq_true (c.fact 187)) (of_decide_eq_true (c.fact 188)) (of_decide_eq_true (c.fact 189)) (of_decide_eq_true (c.fact 190)) (c.fact 191) (of_decide_eq_true (c.fact 192)) (c.fact 193) (c.fact 194) (c.fact 195) (c.fact 196) (c.fact 197) (of_decide_eq_true (c.fact 198)) (c.fact 199) (of_decide_eq_true (c.fact 200)) (of_decide_eq_true (c.fact 201)) (c.fact 202) (HHk.getO_ok (c.fact 203)) p10_Whole p11_Whole (He.eqO_ok (c.fact 205)) (He.eqO_ok (c.fact 206)) (of_decide_eq_true (c.fact 207)) (of_decide_eq_true (c.fact 208)) (of_decide_eq_true (c.fact 209)) (c.fact 210) (of_decide_eq_true (c.fact 211)) (He.eqO_ok (c.fact 212)) (of_decide_eq_true (c.fact 213)) (of_decide_eq_true (c.fact 214)) (of_decide_eq_true (c.fact 215)) (of_decide_eq_true (c.fact 216)) (of_decide_eq_true (c.fact 217)) (of_decide_eq_true (c.fact 218)) (c.fact 219) (of_decide_eq_true (c.fact 220)) (c.fact 221) (c.fact 222) (c.fact 223) (c.fact 224) (c.fact 225) (of_decide_eq_true (c.fact 226)) (c.fact 227) (of_decide_eq_true (c.fact 228)) (of_decide_eq_true (c.fact 229)) (c.fact 230) (HHk.getO_ok (c.fact 231)) p10_NoWhole p11_NoWhole (He.eqO_ok (c.fact 233)) (He.eqO_ok (c.fact 234)) (of_decide_eq_true (c.fact 235)) (of_decide_eq_true (c.fact 236)) (of_decide_eq_true (c.fact 237)) (c.fact 238) (of_decide_eq_true (c.fact 239)) (He.eqO_ok (c.fact 240)) (of_decide_eq_true (c.fact 241)) (of_decide_eq_true (c.fact 242)) (of_decide_eq_true (c.fact 243)) (of_decide_eq_true (c.fact 244)) (of_decide_eq_true (c.fact 245)) (of_decide_eq_true (c.fact 246)) (c.fact 247) (of_decide_eq_true (c.fact 248)) (c.fact 249) (c.fact 250) (c.fact 251) (c.fact 252) (c.fact 253) (of_decide_eq_true (c.fact 254)) (c.fact 255) (of_decide_eq_true (c.fact 256)) (of_decide_eq_true (c.fact 257)) (c.fact 258) (HHk.getO_ok (c.fact 259)) p10_Paper p11_Paper (He.eqO_ok (c.fact 261)) (He.eqO_ok (c.fact 262)) (of_decide_eq_true (c.fact 263)) (of_decide_eq_true (c.fact 264)) (of_decide_eq_true (c.fact 265)) (of_decide_eq_true (c.fact 266)) (of_decide_eq_true (c.fact 267)) (of_decide_eq_true (c.fact 268)) (of_decide_eq_true (c.fact 269)) (c.fact 270) (of_decide_eq_true (c.fact 271)) (c.fact 272) (c.fact 273) (c.fact 274) (c.fact 275) (c.fact 276) (of_decide_eq_true (c.fact 277)) (c.fact 278) (of_decide_eq_true (c.fact 279)) (of_decide_eq_true (c.fact 280)) (c.fact 281) (HHk.getO_ok (c.fact 282)) p10_Denial p11_Denial (He.eqO_ok (c.fact 284)) (He.eqO_ok (c.fact 285)) (of_decide_eq_true (c.fact 286)) (of_decide_eq_true (c.fact 287)) (of_decide_eq_true (c.fact 288)) (of_decide_eq_true (c.fact 289)) (of_decide_eq_true (c.fact 290)) (of_decide_eq_true (c.fact 291)) (of_decide_eq_true (c.fact 292)) (of_decide_eq_true (c.fact 293)) (of_decide_eq_true (c.fact 294)) (of_decide_eq_true (c.fact 295)) (of_decide_eq_true (c.fact 296)) (of_decide_eq_true (c.fact 297)) (of_decide_eq_true (c.fact 298)) (of_decide_eq_true (c.fact 299)) (of_decide_eq_true (c.fact 300)) (of_decide_eq_true (c.fact 301)) (of_decide_eq_true (c.fact 302)) (of_decide_eq_true (c.fact 303)) (of_decide_eq_true (c.fact 304)) (of_decide_eq_true (c.fact 305)) (of_decide_eq_true (c.fact 306)) (of_decide_eq_true (c.fact 307)) (of_decide_eq_true (c.fact 308)) (of_decide_eq_true (c.fact 309)) (of_decide_eq_true (c.fact 310)) (of_decide_eq_true (c.fact 311)) (of_decide_eq_true (c.fact 312)) (of_decide_eq_true (c.fact 313)) (of_decide_eq_true (c.fact 314)) (of_decide_eq_true (c.fact 315)) c_MOST_TOLD c_MOST_POWER
end D20
open PySem PySem.W PyProof.Rows
set_option maxHeartbeats 0 in
theorem PySem.Challenge.cw_fourthlike_k20_papers_on_powers_bent_holds : PySem.Challenge.rw_fourthlike_k20_papers_on_powers_bent.Holds := by
  w_on; o_law
  refine HandSHeadRun.head_any (r := (OpenLaw.row PySem.Challenge.rw_fourthlike_k20_papers_on_powers_bent)) (q := view (OpenLaw.row PySem.Challenge.rw_fourthlike_k20_papers_on_powers_bent).prog [46]) (H := D20.hk) (ob := D20.ob) (M := 9000) (loose := D20.names) (d := HandSHeadRun.topDef (OpenLaw.row PySem.Challenge.rw_fourthlike_k20_papers_on_powers_bent).prog 46) (kwd := []) D20.ob_eq (by kernel_rfl) (fun s => by kernel_rfl) D20.run (by kernel_rfl) (by kernel_rfl) (by kernel_rfl) (by rfl) (by first | assumption | decide +kernel) (by decide +kernel) ⟨rfl, rfl, rfl, rfl, rfl, by decide +kernel⟩ ?hw ?hc
  case hw => w_witness2
  case hc =>
    refine L2.walk_ofE (l := PySem.Challenge.rw_fourthlike_k20_papers_on_powers_bent) (n := 63) (k := 8) (x := "script") (CX := L2.CX0) rfl (by decide) (by kernel_rfl) ⟨rfl, by decide, by decide⟩ ?F (fun _ _ _ _ z => z)
    intro w mg fa h Y G hmg0
    obtain ⟨K, KX, c⟩ := Y
    have hmg : mg ("law" : PySem.Str) = some (.ref fa) := by
      have e : (HandSHeadRun.topDef (OpenLaw.row PySem.Challenge.rw_fourthlike_k20_papers_on_powers_bent).prog 46).name = ("law" : PySem.Str) := by kernel_rfl
      rw [← e]
      exact hmg0
    obtain ⟨fd, hb, hF⟩ := D20.facts (w := w) KX G hmg c
    exact ⟨K, fd, D20.sp_law K, KX, hb, fun H a ns hl _ hS => ⟨a, ns, rfl, hS, hl, fun _ => rfl⟩, hF⟩
