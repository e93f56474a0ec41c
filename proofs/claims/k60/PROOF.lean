import PyProof.Rows.All
import Wide.All
import OpenK.AllK
import Wide.FinOn
import HandS.ForMost
import HandS.Wide
import HandS.Style
import HandS.NoneIn
import HandS.IsInst
import HandS.Evl
import HandS.TupAny
import HandS.Zip
import KE.RegKIsAll
import KE.RegKSuper
import HandS.Defaults
import KE.KStateDown
import HandS.Head0
import HandS.Head1
import HandS.Head2
import HandS.HeadEnd
import HandS.HeadHook1
import HandS.HeadHook2
import KE.KSuper
import HandS.ClsMeth
import HandS.Nested
import HandS.Star
import KE.KTypeName
import HandS.OwnEq
import HandS.SetFor
import HandS.Records
import HandS.RaiseMore
import PyProof.Rows.Range3
import HandS.Strs
import HandS.Deep
import PyProof.ReprRoads
import HandS.Ends
import PyProof.EnumMake
import KE.GoesEnum
import KE.SortData
import HandS.WideBits
import KE.KBits
import KE.BitLaws
import KE.OsArith
import PyProof.WalksMore
import PyProof.Rows.SetFrom
import PyProof.Rows.ReprOcc
import KE.IntBitsLaws
import HandS.Base
import HandS.Call
import OpenK.KOps
import HandS.Conv
import PySem.Challenge.RW_fourthlike_k60_two_adders_that_part
set_option Elab.async false
set_option linter.all false
set_option maxRecDepth 100000
set_option maxHeartbeats 4000000
/-! the head by one kernel run: what the top leaves, read off the objects that the globals reach -/
namespace HHk
open PySem PySem.Spec PyProof.Rows L2
def asX (g : Addr → Option Obj) : Nat → List Addr
  | 0 => [mainGlobals, cStatics]
  | n + 1 => He.growD g (asX g n)
def isNon : Value → Bool
  | .none => true
  | _ => false
theorem isNon_ok {v : Value} (h : isNon v = true) : v = .none := by cases v <;> first | rfl | cases h
abbrev FnR : Type := Option (Str × Str × Arguments × FuncBody × Scope × Addr × List Str × Bool × Addr)
def fnR (K : PySem.W.Frag) (a : Addr) : FnR := match K.lookup a with
  | some ⟨_, _, .func fd, _⟩ => some (fd.name, fd.qualname, fd.params, fd.body, fd.scope, fd.globals, fd.closure.map (·.1), isNon fd.defaults, fd.builtins)
  | _ => none
abbrev Fs : Type := List (PySem.W.Frag → Bool)
abbrev Fn : Type := List ((PySem.W.Frag → Addr) × FnR)
abbrev Al : Type := Bool × List FnR
def obs (fs : Fs) (fn : Fn) (K : PySem.W.Frag) : Al := (fs.all fun f => f K, fn.map fun d => fnR K (d.1 K))
def val (fn : Fn) : Al := (true, fn.map (·.2))
def Says (fs : Fs) (fn : Fn) (K : PySem.W.Frag) : Prop := obs fs fn K = val fn
def obsG (n : Nat) (fs : Fs) (fn : Fn) (g : Addr → Option Obj) : Al := obs fs fn (He.frG g (asX g n))
def hook (n : Nat) (fs : Fs) (fn : Fn) : PySem.W.Hook where
  α := Al
  obs := fun s => obsG n fs fn s.heap.get?
  val := fun _ => val fn
  says := fun _ h => ∃ K : PySem.W.Frag, K.In h ∧ Says fs fn K
  of := fun _ _ e => ⟨_, He.frG_in, e⟩
  keeps := fun _ _ _ ⟨K, hK, c⟩ k => ⟨K, PySem.W.Frag.In.keeps hK k, c⟩
theorem obsG_eq {n : Nat} {fs : Fs} {fn : Fn} {g : Addr → Option Obj} {s : Shared} (h : ∀ a, g a = s.heap.get? a) : obsG n fs fn g = (hook n fs fn).obs s := by
  have e : g = s.heap.get? := funext h
  rw [e] <;> rfl
section
variable {fs : Fs} {fn : Fn} {K : PySem.W.Frag}
theorem Says.fact (c : Says fs fn K) (i : Nat) {f : PySem.W.Frag → Bool} (h : fs[i]? = some f := by rfl) : f K = true :=
  List.all_eq_true.mp (show (fs.all fun f => f K) = true from congrArg (fun z : Al => z.1) c) f (List.mem_of_getElem? h)
theorem Says.at_ (c : Says fs fn K) (i : Nat) {d : (PySem.W.Frag → Addr) × FnR} (h : fn[i]? = some d := by rfl) : fnR K (d.1 K) = d.2 := by
  have e : fn.map (fun d => fnR K (d.1 K)) = fn.map (·.2) := congrArg (fun z : Al => z.2) c
  have e2 : (fn.map fun d => fnR K (d.1 K))[i]? = (fn.map (·.2))[i]? := by rw [e]
  rw [List.getElem?_map, List.getElem?_map, h] at e2
  exact Option.some.inj e2
end
def codeB (K : PySem.W.Frag) (a : Addr) (q : Str) : Bool := match K.lookup a with
  | some ⟨_, _, .func fd, _⟩ => PySem.W.codeIn K fd.code q
  | _ => false
section
variable {K : PySem.W.Frag} {a : Addr} {name qual : Str} {params : Arguments} {body : List Stmt} {scope : Scope}
theorem plain (e : fnR K a = some (name, qual, params, .stmts body, scope, mainGlobals, [], true, builtinsNs)) (c : codeB K a qual = true) :
    ∃ oc od sl kV doc pm an cd ct, K.lookup a = some ⟨oc, od, .func (PySem.W.fnOf name qual params body scope .none kV doc pm an cd ct), sl⟩ ∧ PySem.W.codeIn K cd qual = true := by
  unfold codeB at c
  unfold fnR at e
  cases q : K.lookup a with
  | none => rw [q] at c; cases c
  | some o =>
    obtain ⟨oc, od, dt, osl⟩ := o
    rw [q] at c e
    cases dt with
    | func fd =>
      obtain ⟨n1, n2, n3, n4, n5, n6, n7, n8, n9, n10, n11, n12, n13, n14, n15⟩ := fd
      simp only [Option.some.injEq, Prod.mk.injEq] at e
      obtain ⟨h1, h2, h3, h4, h5, h6, h7, h8, h9⟩ := e
      have h8 := isNon_ok h8
      have h7 : n7 = [] := List.map_eq_nil_iff.mp h7
      subst h1 h2 h3 h4 h5 h6 h7 h8 h9
      exact ⟨oc, od, osl, n9, n10, n11, n12, n13, n14, rfl, c⟩
    | _ => cases c
/-- one default, a reference -/
def dflB (K : PySem.W.Frag) (a : Addr) : Bool := match K.lookup a with
  | some ⟨_, _, .func fd, _⟩ => (match fd.defaults with
    | .ref T => (match K.lookup T with
      | some ⟨_, _, .seq its _, _⟩ => (match its.toList with
        | [.ref _] => true
        | _ => false)
      | _ => false)
    | _ => false)
  | _ => false
theorem dfl (e : fnR K a = some (name, qual, params, .stmts body, scope, mainGlobals, [], false, builtinsNs)) (c : codeB K a qual = true) (t : dflB K a = true) :
    ∃ oc od sl kV doc pm an cd ct T oT nT b, K.lookup a = some ⟨oc, od, .func (PySem.W.fnOf name qual params body scope (.ref T) kV doc pm an cd ct), sl⟩ ∧ PySem.W.codeIn K cd qual = true ∧ K.lookup T = some oT ∧ oT.data = .seq [Value.ref b].toArray nT := by
  unfold codeB at c
  unfold fnR at e
  unfold dflB at t
  cases q : K.lookup a with
  | none => rw [q] at c; cases c
  | some o =>
    obtain ⟨oc, od, dt, osl⟩ := o
    rw [q] at c e t
    cases dt with
    | func fd =>
      obtain ⟨n1, n2, n3, n4, n5, n6, n7, n8, n9, n10, n11, n12, n13, n14, n15⟩ := fd
      simp only [Option.some.injEq, Prod.mk.injEq] at e
      obtain ⟨h1, h2, h3, h4, h5, h6, h7, h8, h9⟩ := e
      have h7 : n7 = [] := List.map_eq_nil_iff.mp h7
      subst h1 h2 h3 h4 h5 h6 h7 h9
      cases n8 with
      | ref T =>
        have t2 : (match K.lookup T with
          | some ⟨_, _, .seq its _, _⟩ => (match its.toList with
            | [.ref _] => true
            | _ => false)
          | _ => false) = true := t
        cases qT : K.lookup T with
        | none => rw [qT] at t2; cases t2
        | some oT =>
          obtain ⟨tc, td, tt, tsl⟩ := oT
          rw [qT] at t2
          cases tt with
          | seq its nT =>
            have t3 : (match its.toList with
              | [.ref _] => true
              | _ => false) = true := t2
            obtain ⟨b, hb⟩ : ∃ b, its.toList = [.ref b] := by
              generalize its.toList = l at t3
              match l, t3 with
              | [.ref b], _ => exact ⟨b, rfl⟩
            have e3 : its = [Value.ref b].toArray := by rw [← hb, Array.toArray_toList]
            exact ⟨oc, od, osl, n9, n10, n11, n12, n13, n14, T, _, nT, b, rfl, c, qT, by rw [e3]⟩
          | _ => cases t2
      | _ => cases t
    | _ => cases c
def strAt (o : Option Value) (file : Str) : Bool := match o with
  | some (.str f _) => (file == f)
  | _ => false
theorem strAt_ok {o : Option Value} {file : Str} (h : strAt o file = true) : ∃ f tf, o = some (.str f tf) ∧ (file == f) = true := by
  match o, h with
  | some (.str f tf), h => exact ⟨f, tf, rfl, h⟩
def nmAt (o : Option (Option Value)) (nm : Str) : Bool := match o with
  | some (some (.str x _)) => decide (x = nm)
  | _ => false
theorem nmAt_ok {o : Option (Option Value)} {nm : Str} (h : nmAt o nm = true) : ∃ tk, o = some (some (.str nm tk)) := by
  match o, h with
  | some (some (.str x tk)), h =>
    have hx : x = nm := of_decide_eq_true h
    subst hx
    exact ⟨tk, rfl⟩
/-- an __init__ that names its class in a cell -/
def supB (K : PySem.W.Frag) (a C : Addr) (qual file : Str) : Bool := match K.lookup a with
  | some ⟨_, _, .func fd, _⟩ => (match fd.closure, fd.code with
    | [(_, cc)], .ref ca => PySem.W.codeIn K (.ref ca) qual && ((match K.lookup ca with
      | some ⟨_, _, .fields xvs, _⟩ => strAt xvs[2]? file
      | _ => false) && ((match K.lookup cc with
      | some ⟨_, _, .cell (some (.ref D)), _⟩ => decide (D = C)
      | _ => false) && (PySem.W.clsIn K C).isSome))
    | _, _ => false)
  | _ => false
theorem sup {C : Addr} {file : Str} {x : Str} (e : fnR K a = some (name, qual, params, .stmts body, scope, mainGlobals, [x], true, builtinsNs)) (t : supB K a C qual file = true) :
    ∃ oc od sl kV doc pm an ct cc ca xcl xcd xvs xcs f tf ycl ycd ycs cdD, K.lookup a = some ⟨oc, od, .func (PySem.W.fnX name qual params body scope [(x, cc)] .none kV doc pm an (.ref ca) ct), sl⟩ ∧ PySem.W.codeIn K (.ref ca) qual = true ∧
      K.lookup ca = some ⟨xcl, xcd, .fields xvs, xcs⟩ ∧ xvs[2]? = some (.str f tf) ∧ (file == f) = true ∧ K.lookup cc = some ⟨ycl, ycd, .cell (some (.ref C)), ycs⟩ ∧ PySem.W.clsIn K C = some cdD := by
  unfold fnR at e
  unfold supB at t
  cases q : K.lookup a with
  | none => rw [q] at t; cases t
  | some o =>
    obtain ⟨oc, od, dt, osl⟩ := o
    rw [q] at e t
    cases dt with
    | func fd =>
      obtain ⟨n1, n2, n3, n4, n5, n6, n7, n8, n9, n10, n11, n12, n13, n14, n15⟩ := fd
      simp only [Option.some.injEq, Prod.mk.injEq] at e
      obtain ⟨h1, h2, h3, h4, h5, h6, h7, h8, h9⟩ := e
      have h8 := isNon_ok h8
      subst h1 h2 h3 h4 h5 h6 h8 h9
      match n7, h7 with
      | [(y, cc)], h7 =>
        have hy : y = x := by simpa using h7
        subst hy
        cases n13 with
        | ref ca =>
          have t1 : (PySem.W.codeIn K (.ref ca) n2 && ((match K.lookup ca with
            | some ⟨_, _, .fields xvs, _⟩ => strAt xvs[2]? file
            | _ => false) && ((match K.lookup cc with
            | some ⟨_, _, .cell (some (.ref D)), _⟩ => decide (D = C)
            | _ => false) && (PySem.W.clsIn K C).isSome))) = true := t
          obtain ⟨t2, t1⟩ := He.ba t1
          obtain ⟨t3, t1⟩ := He.ba t1
          obtain ⟨t4, t5⟩ := He.ba t1
          obtain ⟨cdD, t5⟩ := Option.isSome_iff_exists.mp t5
          cases qa : K.lookup ca with
          | none => rw [qa] at t3; cases t3
          | some oa =>
            obtain ⟨xcl, xcd, xd, xcs⟩ := oa
            rw [qa] at t3
            cases xd with
            | fields xvs =>
              obtain ⟨f, tf, qx, t6⟩ := strAt_ok (show strAt xvs[2]? file = true from t3)
              cases qc : K.lookup cc with
              | none => rw [qc] at t4; cases t4
              | some oc2 =>
                obtain ⟨ycl, ycd, yd, ycs⟩ := oc2
                rw [qc] at t4
                cases yd with
                | cell v2 =>
                  match v2, t4, qc with
                  | some (.ref D), t4, qc =>
                    have hD : D = C := of_decide_eq_true t4
                    subst hD
                    exact ⟨oc, od, osl, n9, n10, n11, n12, n14, cc, ca, xcl, xcd, xvs, xcs, f, tf, ycl, ycd, ycs, cdD, rfl, t2, qa, qx, t6, qc, t5⟩
                | _ => cases t4
            | _ => cases t3
        | _ => cases t
    | _ => cases t
/-- a class by its name -/
def getO (o : Option PySem.W.CFound) (a b c d : Value) : Bool := match o with
  | some (.get x y z t) => decide (x = a) && (decide (y = b) && (decide (z = c) && decide (t = d)))
  | _ => false
theorem getO_ok {o : Option PySem.W.CFound} {a b c d : Value} (h : getO o a b c d = true) : o = some (.get a b c d) := by
  match o, h with
  | some (.get x y z t), h =>
    obtain ⟨h1, h⟩ := He.ba (show (decide (x = a) && (decide (y = b) && (decide (z = c) && decide (t = d)))) = true from h)
    obtain ⟨h2, h⟩ := He.ba h
    obtain ⟨h3, h4⟩ := He.ba h
    rw [of_decide_eq_true h1, of_decide_eq_true h2, of_decide_eq_true h3, of_decide_eq_true h4]
def intGB (K : PySem.W.Frag) (x : Str) (i : Int) : Bool := match PySem.W.nsIn K mainGlobals x with
  | some (some (.int j _)) => decide (j = i)
  | _ => false
theorem intG {x : Str} {i : Int} (h : intGB K x i = true) : ∃ t, PySem.W.nsIn K mainGlobals x = some (some (.int i t)) := by
  unfold intGB at h
  generalize PySem.W.nsIn K mainGlobals x = o at h
  match o, h with
  | some (some (.int j t)), h => exact ⟨t, by rw [show j = i from of_decide_eq_true h]⟩
def strGB (K : PySem.W.Frag) (x z : Str) : Bool := match PySem.W.nsIn K mainGlobals x with
  | some (some (.str j _)) => decide (j = z)
  | _ => false
theorem strG {x z : Str} (h : strGB K x z = true) : ∃ t, PySem.W.nsIn K mainGlobals x = some (some (.str z t)) := by
  unfold strGB at h
  generalize PySem.W.nsIn K mainGlobals x = o at h
  match o, h with
  | some (some (.str j t)), h => exact ⟨t, by rw [show j = z from of_decide_eq_true h]⟩
def clsB (K : PySem.W.Frag) (C : Addr) (nm : Str) : Bool := match K.lookup C with
  | some ⟨.type t, _, .cls _, sl⟩ => decide (t = "type") && nmAt sl[2]? nm
  | _ => false
theorem cls {C : Addr} {nm : Str} (t : clsB K C nm = true) : ∃ od cd sl tk, K.lookup C = some ⟨.type "type", od, .cls cd, sl⟩ ∧ sl[2]? = some (some (.str nm tk)) := by
  unfold clsB at t
  cases q : K.lookup C with
  | none => rw [q] at t; cases t
  | some o =>
    obtain ⟨oc, od, dt, osl⟩ := o
    rw [q] at t
    cases oc with
    | type c =>
      cases dt with
      | cls cd =>
        obtain ⟨t1, t2⟩ := He.ba (show (decide (c = "type") && nmAt osl[2]? nm) = true from t)
        have t1 := of_decide_eq_true t1
        subst t1
        obtain ⟨tk, qs⟩ := nmAt_ok t2
        exact ⟨od, cd, osl, tk, rfl, qs⟩
      | _ => cases t
    | _ => cases t
end
end HHk
namespace D60
open PySem PySem.Spec PyProof.Rows L2
def topS (i : Nat) : Stmt := PySem.Challenge.pw_fourthlike_k60_two_adders_that_part.main.body.getD i (.Pass ⟨0, 0, 0, 0⟩)
abbrev s_is_integer : Stmt := (topS 3)
abbrev s_is_within : Stmt := (topS 4)
abbrev s_is_row : Stmt := (topS 5)
abbrev s_are_bits : Stmt := (topS 27)
abbrev s_all_rows : Stmt := (topS 28)
abbrev s_cases_told : Stmt := (topS 29)
abbrev s_need_each_once : Stmt := (topS 30)
abbrev s_Book_init : Stmt := (inClass (topS 31) 0)
abbrev s_Book_len : Stmt := (inClass (topS 31) 1)
abbrev s_Book_eq : Stmt := (inClass (topS 31) 2)
abbrev s_Book_with_case : Stmt := (inClass (topS 31) 4)
abbrev s_need_book : Stmt := (topS 33)
abbrev s_need_places : Stmt := (topS 34)
abbrev s_need_row_of : Stmt := (topS 35)
abbrev s_fixed : Stmt := (topS 37)
abbrev s_Paper_init : Stmt := (inClass (topS 38) 0)
abbrev s_Paper_eq : Stmt := (inClass (topS 38) 2)
abbrev s_is_bits : Stmt := (topS 41)
abbrev s_need_bits : Stmt := (topS 42)
abbrev s_Adder_init : Stmt := (inClass (topS 43) 0)
abbrev s_Adder_outcome : Stmt := (inClass (topS 43) 1)
abbrev s_is_adder : Stmt := (topS 44)
abbrev s_need_adder : Stmt := (topS 45)
abbrev s_added : Stmt := (topS 46)
abbrev s_Fits_init : Stmt := (inClass (topS 48) 0)
abbrev s_Quarrel_init : Stmt := (inClass (topS 49) 0)
abbrev s_Forced_init : Stmt := (inClass (topS 50) 0)
abbrev s_Open_init : Stmt := (inClass (topS 51) 0)
abbrev s_vector_of : Stmt := (topS 52)
abbrev s_numbers_in : Stmt := (topS 53)
abbrev s_reduced : Stmt := (topS 54)
abbrev s_wider : Stmt := (topS 55)
abbrev s_base_of : Stmt := (topS 56)
abbrev s_adder_by : Stmt := (topS 57)
abbrev s_possible_base : Stmt := (topS 58)
abbrev s_quarrel : Stmt := (topS 59)
abbrev s_word_of : Stmt := (topS 60)
abbrev s_all_adders : Stmt := (topS 61)
abbrev s_wrong_at : Stmt := (topS 62)
abbrev s_fitting : Stmt := (topS 63)
abbrev s__law_well : Stmt := (topS 65)
abbrev s__law_sip : Stmt := (topS 66)
abbrev s__law_pick : Stmt := (topS 67)
abbrev s__law_rows : Stmt := (topS 68)
abbrev s__law_adders : Stmt := (topS 69)
abbrev s__law_gives : Stmt := (topS 70)
abbrev s__law_fits : Stmt := (topS 71)
abbrev s_law : Stmt := (topS 73)
def names0 : List PySem.Str := ["_wall",
  "__name__",
  "DIGITS",
  "is_integer",
  "is_within",
  "is_row",
  "LikeError",
  "BadRow",
  "BadBook",
  "BadNumber",
  "BadPaper",
  "Misfit",
  "Missing",
  "NoPlace",
  "NoCase",
  "Twice",
  "Impossible",
  "TooMany",
  "BadText",
  "MOST_DIGITS",
  "number_in",
  "Scan",
  "MOST_PLACES",
  "MOST_CASES",
  "are_bits",
  "all_rows",
  "cases_told",
  "need_each_once",
  "Book",
  "case_in"]
def names1 : List PySem.Str := ["need_book",
  "need_places",
  "need_row_of",
  "fixed",
  "Paper",
  "Denial",
  "is_bits",
  "need_bits",
  "Adder",
  "is_adder",
  "need_adder",
  "added",
  "Fits",
  "Quarrel",
  "Forced",
  "Open",
  "vector_of",
  "numbers_in",
  "reduced",
  "wider",
  "base_of",
  "adder_by",
  "possible_base",
  "quarrel",
  "word_of",
  "all_adders",
  "wrong_at",
  "fitting",
  "_law_well",
  "_law_sip"]
def names2 : List PySem.Str := ["_law_pick",
  "_law_rows",
  "_law_adders",
  "_law_gives",
  "_law_fits",
  "_law_cases"]
def names : List PySem.Str := names0 ++ (names1 ++ (names2))
def fs0 : HHk.Fs := [fun K => decide (PySem.W.nsIn K mainGlobals "Book" = some (some (.ref (He.ga K "Book")))),
  fun K => decide (PySem.W.nsIn K mainGlobals "Paper" = some (some (.ref (He.ga K "Paper")))),
  fun K => decide (PySem.W.nsIn K mainGlobals "Adder" = some (some (.ref (He.ga K "Adder")))),
  fun K => decide (PySem.W.nsIn K mainGlobals "Fits" = some (some (.ref (He.ga K "Fits")))),
  fun K => decide (PySem.W.nsIn K mainGlobals "Denial" = some (some (.ref (He.ga K "Denial")))),
  fun K => decide (PySem.W.nsIn K mainGlobals "Quarrel" = some (some (.ref (He.ga K "Quarrel")))),
  fun K => decide (PySem.W.nsIn K mainGlobals "Forced" = some (some (.ref (He.ga K "Forced")))),
  fun K => decide (PySem.W.nsIn K mainGlobals "Open" = some (some (.ref (He.ga K "Open")))),
  fun K => decide (PySem.W.nsIn K mainGlobals "is_integer" = some (some (.ref (He.ga K "is_integer")))),
  fun K => HHk.codeB K (He.ga K "is_integer") "is_integer",
  fun K => PySem.W.keepIn K (.ref (He.ga K "is_integer")),
  fun K => decide (PySem.W.nsIn K mainGlobals "is_within" = some (some (.ref (He.ga K "is_within")))),
  fun K => HHk.codeB K (He.ga K "is_within") "is_within",
  fun K => PySem.W.keepIn K (.ref (He.ga K "is_within")),
  fun K => decide (PySem.W.nsIn K mainGlobals "is_row" = some (some (.ref (He.ga K "is_row")))),
  fun K => HHk.codeB K (He.ga K "is_row") "is_row",
  fun K => PySem.W.keepIn K (.ref (He.ga K "is_row")),
  fun K => decide (PySem.W.nsIn K mainGlobals "are_bits" = some (some (.ref (He.ga K "are_bits")))),
  fun K => HHk.codeB K (He.ga K "are_bits") "are_bits",
  fun K => PySem.W.keepIn K (.ref (He.ga K "are_bits"))]
def fs1 : HHk.Fs := [fun K => decide (PySem.W.nsIn K mainGlobals "all_rows" = some (some (.ref (He.ga K "all_rows")))),
  fun K => HHk.codeB K (He.ga K "all_rows") "all_rows",
  fun K => PySem.W.keepIn K (.ref (He.ga K "all_rows")),
  fun K => decide (PySem.W.nsIn K mainGlobals "cases_told" = some (some (.ref (He.ga K "cases_told")))),
  fun K => HHk.codeB K (He.ga K "cases_told") "cases_told",
  fun K => PySem.W.keepIn K (.ref (He.ga K "cases_told")),
  fun K => decide (PySem.W.nsIn K mainGlobals "need_each_once" = some (some (.ref (He.ga K "need_each_once")))),
  fun K => HHk.codeB K (He.ga K "need_each_once") "need_each_once",
  fun K => PySem.W.keepIn K (.ref (He.ga K "need_each_once")),
  fun K => decide (PySem.W.findIn K (.ref (He.ga K "Book")) "__init__" = some (some (.ref (He.ma K (He.ga K "Book") "__init__")))),
  fun K => HHk.codeB K (He.ma K (He.ga K "Book") "__init__") "Book.__init__",
  fun K => HHk.dflB K (He.ma K (He.ga K "Book") "__init__"),
  fun K => PySem.W.keepIn K (.ref (He.ma K (He.ga K "Book") "__init__")),
  fun K => decide (PySem.W.findIn K (.ref (He.ga K "Book")) "__len__" = some (some (.ref (He.ma K (He.ga K "Book") "__len__")))),
  fun K => HHk.codeB K (He.ma K (He.ga K "Book") "__len__") "Book.__len__",
  fun K => PySem.W.keepIn K (.ref (He.ma K (He.ga K "Book") "__len__")),
  fun K => decide (PySem.W.findIn K (.ref (He.ga K "Book")) "__eq__" = some (some (.ref (He.ma K (He.ga K "Book") "__eq__")))),
  fun K => HHk.codeB K (He.ma K (He.ga K "Book") "__eq__") "Book.__eq__",
  fun K => PySem.W.keepIn K (.ref (He.ma K (He.ga K "Book") "__eq__")),
  fun K => decide (PySem.W.findIn K (.ref (He.ga K "Book")) "with_case" = some (some (.ref (He.ma K (He.ga K "Book") "with_case"))))]
def fs2 : HHk.Fs := [fun K => HHk.codeB K (He.ma K (He.ga K "Book") "with_case") "Book.with_case",
  fun K => PySem.W.keepIn K (.ref (He.ma K (He.ga K "Book") "with_case")),
  fun K => decide (PySem.W.nsIn K mainGlobals "need_book" = some (some (.ref (He.ga K "need_book")))),
  fun K => HHk.codeB K (He.ga K "need_book") "need_book",
  fun K => PySem.W.keepIn K (.ref (He.ga K "need_book")),
  fun K => decide (PySem.W.nsIn K mainGlobals "need_places" = some (some (.ref (He.ga K "need_places")))),
  fun K => HHk.codeB K (He.ga K "need_places") "need_places",
  fun K => PySem.W.keepIn K (.ref (He.ga K "need_places")),
  fun K => decide (PySem.W.nsIn K mainGlobals "need_row_of" = some (some (.ref (He.ga K "need_row_of")))),
  fun K => HHk.codeB K (He.ga K "need_row_of") "need_row_of",
  fun K => PySem.W.keepIn K (.ref (He.ga K "need_row_of")),
  fun K => decide (PySem.W.nsIn K mainGlobals "fixed" = some (some (.ref (He.ga K "fixed")))),
  fun K => HHk.codeB K (He.ga K "fixed") "fixed",
  fun K => PySem.W.keepIn K (.ref (He.ga K "fixed")),
  fun K => decide (PySem.W.findIn K (.ref (He.ga K "Paper")) "__init__" = some (some (.ref (He.ma K (He.ga K "Paper") "__init__")))),
  fun K => HHk.codeB K (He.ma K (He.ga K "Paper") "__init__") "Paper.__init__",
  fun K => decide (PySem.W.findIn K (.ref (He.ga K "Paper")) "__eq__" = some (some (.ref (He.ma K (He.ga K "Paper") "__eq__")))),
  fun K => HHk.codeB K (He.ma K (He.ga K "Paper") "__eq__") "Paper.__eq__",
  fun K => PySem.W.keepIn K (.ref (He.ma K (He.ga K "Paper") "__eq__")),
  fun K => decide (PySem.W.nsIn K mainGlobals "is_bits" = some (some (.ref (He.ga K "is_bits"))))]
def fs3 : HHk.Fs := [fun K => HHk.codeB K (He.ga K "is_bits") "is_bits",
  fun K => PySem.W.keepIn K (.ref (He.ga K "is_bits")),
  fun K => decide (PySem.W.nsIn K mainGlobals "need_bits" = some (some (.ref (He.ga K "need_bits")))),
  fun K => HHk.codeB K (He.ga K "need_bits") "need_bits",
  fun K => PySem.W.keepIn K (.ref (He.ga K "need_bits")),
  fun K => decide (PySem.W.findIn K (.ref (He.ga K "Adder")) "__init__" = some (some (.ref (He.ma K (He.ga K "Adder") "__init__")))),
  fun K => HHk.supB K (He.ma K (He.ga K "Adder") "__init__") (He.ga K "Adder") "Adder.__init__" PySem.Challenge.rw_fourthlike_k60_two_adders_that_part.prog.main.file,
  fun K => decide (PySem.W.nsIn K mainGlobals "super" = some none),
  fun K => decide (PySem.W.findIn K (.ref (He.ga K "Adder")) "outcome" = some (some (.ref (He.ma K (He.ga K "Adder") "outcome")))),
  fun K => HHk.codeB K (He.ma K (He.ga K "Adder") "outcome") "Adder.outcome",
  fun K => PySem.W.keepIn K (.ref (He.ma K (He.ga K "Adder") "outcome")),
  fun K => decide (PySem.W.nsIn K mainGlobals "is_adder" = some (some (.ref (He.ga K "is_adder")))),
  fun K => HHk.codeB K (He.ga K "is_adder") "is_adder",
  fun K => PySem.W.keepIn K (.ref (He.ga K "is_adder")),
  fun K => decide (PySem.W.nsIn K mainGlobals "need_adder" = some (some (.ref (He.ga K "need_adder")))),
  fun K => HHk.codeB K (He.ga K "need_adder") "need_adder",
  fun K => PySem.W.keepIn K (.ref (He.ga K "need_adder")),
  fun K => decide (PySem.W.nsIn K mainGlobals "added" = some (some (.ref (He.ga K "added")))),
  fun K => HHk.codeB K (He.ga K "added") "added",
  fun K => PySem.W.keepIn K (.ref (He.ga K "added"))]
def fs4 : HHk.Fs := [fun K => decide (PySem.W.findIn K (.ref (He.ga K "Fits")) "__init__" = some (some (.ref (He.ma K (He.ga K "Fits") "__init__")))),
  fun K => HHk.supB K (He.ma K (He.ga K "Fits") "__init__") (He.ga K "Fits") "Fits.__init__" PySem.Challenge.rw_fourthlike_k60_two_adders_that_part.prog.main.file,
  fun K => decide (PySem.W.findIn K (.ref (He.ga K "Quarrel")) "__init__" = some (some (.ref (He.ma K (He.ga K "Quarrel") "__init__")))),
  fun K => HHk.supB K (He.ma K (He.ga K "Quarrel") "__init__") (He.ga K "Quarrel") "Quarrel.__init__" PySem.Challenge.rw_fourthlike_k60_two_adders_that_part.prog.main.file,
  fun K => decide (PySem.W.findIn K (.ref (He.ga K "Forced")) "__init__" = some (some (.ref (He.ma K (He.ga K "Forced") "__init__")))),
  fun K => HHk.supB K (He.ma K (He.ga K "Forced") "__init__") (He.ga K "Forced") "Forced.__init__" PySem.Challenge.rw_fourthlike_k60_two_adders_that_part.prog.main.file,
  fun K => decide (PySem.W.findIn K (.ref (He.ga K "Open")) "__init__" = some (some (.ref (He.ma K (He.ga K "Open") "__init__")))),
  fun K => HHk.supB K (He.ma K (He.ga K "Open") "__init__") (He.ga K "Open") "Open.__init__" PySem.Challenge.rw_fourthlike_k60_two_adders_that_part.prog.main.file,
  fun K => decide (PySem.W.nsIn K mainGlobals "vector_of" = some (some (.ref (He.ga K "vector_of")))),
  fun K => HHk.codeB K (He.ga K "vector_of") "vector_of",
  fun K => PySem.W.keepIn K (.ref (He.ga K "vector_of")),
  fun K => decide (PySem.W.nsIn K mainGlobals "numbers_in" = some (some (.ref (He.ga K "numbers_in")))),
  fun K => HHk.codeB K (He.ga K "numbers_in") "numbers_in",
  fun K => PySem.W.keepIn K (.ref (He.ga K "numbers_in")),
  fun K => decide (PySem.W.nsIn K mainGlobals "reduced" = some (some (.ref (He.ga K "reduced")))),
  fun K => HHk.codeB K (He.ga K "reduced") "reduced",
  fun K => PySem.W.keepIn K (.ref (He.ga K "reduced")),
  fun K => decide (PySem.W.nsIn K mainGlobals "wider" = some (some (.ref (He.ga K "wider")))),
  fun K => HHk.codeB K (He.ga K "wider") "wider",
  fun K => PySem.W.keepIn K (.ref (He.ga K "wider"))]
def fs5 : HHk.Fs := [fun K => decide (PySem.W.nsIn K mainGlobals "base_of" = some (some (.ref (He.ga K "base_of")))),
  fun K => HHk.codeB K (He.ga K "base_of") "base_of",
  fun K => PySem.W.keepIn K (.ref (He.ga K "base_of")),
  fun K => decide (PySem.W.nsIn K mainGlobals "adder_by" = some (some (.ref (He.ga K "adder_by")))),
  fun K => HHk.codeB K (He.ga K "adder_by") "adder_by",
  fun K => PySem.W.keepIn K (.ref (He.ga K "adder_by")),
  fun K => decide (PySem.W.nsIn K mainGlobals "possible_base" = some (some (.ref (He.ga K "possible_base")))),
  fun K => HHk.codeB K (He.ga K "possible_base") "possible_base",
  fun K => PySem.W.keepIn K (.ref (He.ga K "possible_base")),
  fun K => decide (PySem.W.nsIn K mainGlobals "quarrel" = some (some (.ref (He.ga K "quarrel")))),
  fun K => HHk.codeB K (He.ga K "quarrel") "quarrel",
  fun K => PySem.W.keepIn K (.ref (He.ga K "quarrel")),
  fun K => decide (PySem.W.nsIn K mainGlobals "word_of" = some (some (.ref (He.ga K "word_of")))),
  fun K => HHk.codeB K (He.ga K "word_of") "word_of",
  fun K => PySem.W.keepIn K (.ref (He.ga K "word_of")),
  fun K => decide (PySem.W.nsIn K mainGlobals "all_adders" = some (some (.ref (He.ga K "all_adders")))),
  fun K => HHk.codeB K (He.ga K "all_adders") "all_adders",
  fun K => PySem.W.keepIn K (.ref (He.ga K "all_adders")),
  fun K => decide (PySem.W.nsIn K mainGlobals "wrong_at" = some (some (.ref (He.ga K "wrong_at")))),
  fun K => HHk.codeB K (He.ga K "wrong_at") "wrong_at"]
def fs6 : HHk.Fs := [fun K => PySem.W.keepIn K (.ref (He.ga K "wrong_at")),
  fun K => decide (PySem.W.nsIn K mainGlobals "fitting" = some (some (.ref (He.ga K "fitting")))),
  fun K => HHk.codeB K (He.ga K "fitting") "fitting",
  fun K => PySem.W.keepIn K (.ref (He.ga K "fitting")),
  fun K => decide (PySem.W.nsIn K mainGlobals "_law_well" = some (some (.ref (He.ga K "_law_well")))),
  fun K => HHk.codeB K (He.ga K "_law_well") "_law_well",
  fun K => PySem.W.keepIn K (.ref (He.ga K "_law_well")),
  fun K => decide (PySem.W.nsIn K mainGlobals "_law_sip" = some (some (.ref (He.ga K "_law_sip")))),
  fun K => HHk.codeB K (He.ga K "_law_sip") "_law_sip",
  fun K => PySem.W.keepIn K (.ref (He.ga K "_law_sip")),
  fun K => decide (PySem.W.nsIn K mainGlobals "_law_pick" = some (some (.ref (He.ga K "_law_pick")))),
  fun K => HHk.codeB K (He.ga K "_law_pick") "_law_pick",
  fun K => PySem.W.keepIn K (.ref (He.ga K "_law_pick")),
  fun K => decide (PySem.W.nsIn K mainGlobals "_law_rows" = some (some (.ref (He.ga K "_law_rows")))),
  fun K => HHk.codeB K (He.ga K "_law_rows") "_law_rows",
  fun K => PySem.W.keepIn K (.ref (He.ga K "_law_rows")),
  fun K => decide (PySem.W.nsIn K mainGlobals "_law_adders" = some (some (.ref (He.ga K "_law_adders")))),
  fun K => HHk.codeB K (He.ga K "_law_adders") "_law_adders",
  fun K => PySem.W.keepIn K (.ref (He.ga K "_law_adders")),
  fun K => decide (PySem.W.nsIn K mainGlobals "_law_gives" = some (some (.ref (He.ga K "_law_gives"))))]
def fs7 : HHk.Fs := [fun K => HHk.codeB K (He.ga K "_law_gives") "_law_gives",
  fun K => PySem.W.keepIn K (.ref (He.ga K "_law_gives")),
  fun K => decide (PySem.W.nsIn K mainGlobals "_law_fits" = some (some (.ref (He.ga K "_law_fits")))),
  fun K => HHk.codeB K (He.ga K "_law_fits") "_law_fits",
  fun K => PySem.W.keepIn K (.ref (He.ga K "_law_fits")),
  fun K => decide (PySem.W.nsIn K mainGlobals "law" = some (some (.ref (He.ga K "law")))),
  fun K => HHk.codeB K (He.ga K "law") "law",
  fun K => PySem.W.keepIn K (.ref (He.ga K "law")),
  fun K => decide (PySem.W.specialIn K (.builtin "object.__class__") "__get__" = some (some (.builtin "getset_descriptor.__get__"))),
  fun K => decide (PySem.W.takesIn K (.builtin "object.__class__") = some true),
  fun K => decide (PySem.W.nsIn K cStatics "thirdparty.any" = some none),
  fun K => PySem.W.makesIn K (He.ga K "Book"),
  fun K => decide (PySem.W.findIn K (.ref (He.ga K "Book")) "__init__" = some (some (.ref (He.ma K (He.ga K "Book") "__init__")))),
  fun K => PySem.W.isFn K (.ref (He.ma K (He.ga K "Book") "__init__")),
  fun K => PySem.W.keepIn K (.ref (He.ga K "Book")),
  fun K => PySem.W.plainGet K (He.ga K "Book") Str.empty,
  fun K => PySem.W.hasDictIn K (He.ga K "Book"),
  fun K => PySem.W.plainOver K (He.ga K "Book"),
  fun K => decide (PySem.W.findIn K (.ref (He.ga K "Book")) "__setattr__" = some (some (.builtin "object.__setattr__"))),
  fun K => PySem.W.plainGet K (He.ga K "Book") "__class__"]
def fs8 : HHk.Fs := [fun K => decide (PySem.W.findIn K (.ref (He.ga K "Book")) "__class__" = some (some (.builtin "object.__class__"))),
  fun K => decide (PySem.W.mroIn K (He.ga K "Book") (.type "object") = some true),
  fun K => PySem.W.readsIn K (He.ga K "Book") (.type "type"),
  fun K => HHk.getO (PySem.W.findCls K (.ref (He.ga K "Book")) (.type "type") "__name__") (.builtin "getset_descriptor.__get__") (.builtin "type.__name__") (.ref (He.ga K "Book")) (.type "type"),
  fun K => HHk.clsB K (He.ga K "Book") "Book",
  fun K => decide (PySem.W.findIn K (.ref (He.ga K "Book")) "with_case" = some (some (.ref (He.ma K (He.ga K "Book") "with_case")))),
  fun K => PySem.W.isFn K (.ref (He.ma K (He.ga K "Book") "with_case")),
  fun K => PySem.W.keepIn K (.ref (He.ma K (He.ga K "Book") "with_case")),
  fun K => decide (PySem.W.findIn K (.ref (He.ga K "Book")) "__len__" = some (some (.ref (He.ma K (He.ga K "Book") "__len__")))),
  fun K => PySem.W.isFn K (.ref (He.ma K (He.ga K "Book") "__len__")),
  fun K => PySem.W.keepIn K (.ref (He.ma K (He.ga K "Book") "__len__")),
  fun K => He.eqO (PySem.W.findIn K (.ref (He.ga K "Book")) "places") (some none),
  fun K => He.eqO (PySem.W.findIn K (.ref (He.ga K "Book")) "cases") (some none),
  fun K => He.eqO (PySem.W.findIn K (.ref (He.ga K "Book")) "rows") (some none),
  fun K => He.eqO (PySem.W.findIn K (.ref (He.ga K "Book")) "outcomes") (some none),
  fun K => decide (PySem.W.kitOne K (.ref (He.ga K "Book")) (.ref (He.ga K "Book")) = some true),
  fun K => decide (PySem.W.findIn K (.ref (He.ga K "Book")) "__eq__" = some (some (.ref (He.ma K (He.ga K "Book") "__eq__")))),
  fun K => PySem.W.isFn K (.ref (He.ma K (He.ga K "Book") "__eq__")),
  fun K => decide (PySem.W.findIn K (.ref (He.ga K "Book")) "__ne__" = some (some (.builtin "object.__ne__"))),
  fun K => PySem.W.notFirst K (He.ga K "Book") (.ref (He.ga K "Book"))]
def fs9 : HHk.Fs := [fun K => PySem.W.makesIn K (He.ga K "Adder"),
  fun K => decide (PySem.W.findIn K (.ref (He.ga K "Adder")) "__init__" = some (some (.ref (He.ma K (He.ga K "Adder") "__init__")))),
  fun K => PySem.W.isFn K (.ref (He.ma K (He.ga K "Adder") "__init__")),
  fun K => PySem.W.keepIn K (.ref (He.ga K "Adder")),
  fun K => PySem.W.plainGet K (He.ga K "Adder") Str.empty,
  fun K => PySem.W.hasDictIn K (He.ga K "Adder"),
  fun K => PySem.W.plainOver K (He.ga K "Adder"),
  fun K => decide (PySem.W.findIn K (.ref (He.ga K "Adder")) "__setattr__" = some (some (.builtin "object.__setattr__"))),
  fun K => PySem.W.plainGet K (He.ga K "Adder") "__class__",
  fun K => decide (PySem.W.findIn K (.ref (He.ga K "Adder")) "__class__" = some (some (.builtin "object.__class__"))),
  fun K => decide (PySem.W.mroIn K (He.ga K "Adder") (.type "object") = some true),
  fun K => PySem.W.readsIn K (He.ga K "Adder") (.type "type"),
  fun K => HHk.getO (PySem.W.findCls K (.ref (He.ga K "Adder")) (.type "type") "__name__") (.builtin "getset_descriptor.__get__") (.builtin "type.__name__") (.ref (He.ga K "Adder")) (.type "type"),
  fun K => HHk.clsB K (He.ga K "Adder") "Adder",
  fun K => decide (PySem.W.findIn K (.ref (He.ga K "Adder")) "outcome" = some (some (.ref (He.ma K (He.ga K "Adder") "outcome")))),
  fun K => PySem.W.isFn K (.ref (He.ma K (He.ga K "Adder") "outcome")),
  fun K => PySem.W.keepIn K (.ref (He.ma K (He.ga K "Adder") "outcome")),
  fun K => He.eqO (PySem.W.findIn K (.ref (He.ga K "Adder")) "word") (some none),
  fun K => He.eqO (PySem.W.findIn K (.ref (He.ga K "Adder")) "parts") (some none),
  fun K => decide (PySem.W.kitOne K (.ref (He.ga K "Adder")) (.ref (He.ga K "Paper")) = some true)]
def fs10 : HHk.Fs := [fun K => decide (PySem.W.ks_superIn K (He.ga K "Adder") (He.ga K "Adder") "__init__" = some (some (.ref (He.ma K (He.ga K "Paper") "__init__")))),
  fun K => decide (PySem.W.typeIn K (.ref (He.ma K (He.ga K "Paper") "__init__")) = some (.type "function")),
  fun K => PySem.W.fnIn K (He.ma K (He.ga K "Paper") "__init__"),
  fun K => decide (PySem.W.mroIn K (He.ga K "Adder") (.ref (He.ga K "Adder")) = some true),
  fun K => He.eqO (PySem.W.findIn K (.ref (He.ga K "Adder")) "places") (some none),
  fun K => He.eqO (PySem.W.findIn K (.ref (He.ga K "Adder")) "constant") (some none),
  fun K => decide (PySem.W.kitOne K (.ref (He.ga K "Adder")) (.ref (He.ga K "Adder")) = some true),
  fun K => decide (PySem.W.kitOne K (.ref (He.ga K "Adder")) (.type "list") = some false),
  fun K => decide (PySem.W.kitOne K (.ref (He.ga K "Adder")) (.type "tuple") = some false),
  fun K => decide (PySem.W.findIn K (.ref (He.ga K "Adder")) "__eq__" = some (some (.ref (He.ma K (He.ga K "Paper") "__eq__")))),
  fun K => PySem.W.isFn K (.ref (He.ma K (He.ga K "Paper") "__eq__")),
  fun K => decide (PySem.W.findIn K (.ref (He.ga K "Adder")) "__ne__" = some (some (.builtin "object.__ne__"))),
  fun K => PySem.W.notFirst K (He.ga K "Adder") (.ref (He.ga K "Adder")),
  fun K => PySem.W.makesIn K (He.ga K "Quarrel"),
  fun K => decide (PySem.W.findIn K (.ref (He.ga K "Quarrel")) "__init__" = some (some (.ref (He.ma K (He.ga K "Quarrel") "__init__")))),
  fun K => PySem.W.isFn K (.ref (He.ma K (He.ga K "Quarrel") "__init__")),
  fun K => PySem.W.keepIn K (.ref (He.ga K "Quarrel")),
  fun K => PySem.W.plainGet K (He.ga K "Quarrel") Str.empty,
  fun K => PySem.W.hasDictIn K (He.ga K "Quarrel"),
  fun K => PySem.W.plainOver K (He.ga K "Quarrel")]
def fs11 : HHk.Fs := [fun K => decide (PySem.W.findIn K (.ref (He.ga K "Quarrel")) "__setattr__" = some (some (.builtin "object.__setattr__"))),
  fun K => PySem.W.plainGet K (He.ga K "Quarrel") "__class__",
  fun K => decide (PySem.W.findIn K (.ref (He.ga K "Quarrel")) "__class__" = some (some (.builtin "object.__class__"))),
  fun K => decide (PySem.W.mroIn K (He.ga K "Quarrel") (.type "object") = some true),
  fun K => PySem.W.readsIn K (He.ga K "Quarrel") (.type "type"),
  fun K => HHk.getO (PySem.W.findCls K (.ref (He.ga K "Quarrel")) (.type "type") "__name__") (.builtin "getset_descriptor.__get__") (.builtin "type.__name__") (.ref (He.ga K "Quarrel")) (.type "type"),
  fun K => HHk.clsB K (He.ga K "Quarrel") "Quarrel",
  fun K => He.eqO (PySem.W.findIn K (.ref (He.ga K "Quarrel")) "word") (some none),
  fun K => He.eqO (PySem.W.findIn K (.ref (He.ga K "Quarrel")) "parts") (some none),
  fun K => decide (PySem.W.kitOne K (.ref (He.ga K "Quarrel")) (.ref (He.ga K "Paper")) = some true),
  fun K => decide (PySem.W.ks_superIn K (He.ga K "Quarrel") (He.ga K "Quarrel") "__init__" = some (some (.ref (He.ma K (He.ga K "Paper") "__init__")))),
  fun K => decide (PySem.W.typeIn K (.ref (He.ma K (He.ga K "Paper") "__init__")) = some (.type "function")),
  fun K => PySem.W.fnIn K (He.ma K (He.ga K "Paper") "__init__"),
  fun K => decide (PySem.W.mroIn K (He.ga K "Quarrel") (.ref (He.ga K "Quarrel")) = some true),
  fun K => He.eqO (PySem.W.findIn K (.ref (He.ga K "Quarrel")) "numbers") (some none),
  fun K => decide (PySem.W.kitOne K (.ref (He.ga K "Quarrel")) (.ref (He.ga K "Quarrel")) = some true),
  fun K => PySem.W.makesIn K (He.ga K "Fits"),
  fun K => decide (PySem.W.findIn K (.ref (He.ga K "Fits")) "__init__" = some (some (.ref (He.ma K (He.ga K "Fits") "__init__")))),
  fun K => PySem.W.isFn K (.ref (He.ma K (He.ga K "Fits") "__init__")),
  fun K => PySem.W.keepIn K (.ref (He.ga K "Fits"))]
def fs12 : HHk.Fs := [fun K => PySem.W.plainGet K (He.ga K "Fits") Str.empty,
  fun K => PySem.W.hasDictIn K (He.ga K "Fits"),
  fun K => PySem.W.plainOver K (He.ga K "Fits"),
  fun K => decide (PySem.W.findIn K (.ref (He.ga K "Fits")) "__setattr__" = some (some (.builtin "object.__setattr__"))),
  fun K => PySem.W.plainGet K (He.ga K "Fits") "__class__",
  fun K => decide (PySem.W.findIn K (.ref (He.ga K "Fits")) "__class__" = some (some (.builtin "object.__class__"))),
  fun K => decide (PySem.W.mroIn K (He.ga K "Fits") (.type "object") = some true),
  fun K => PySem.W.readsIn K (He.ga K "Fits") (.type "type"),
  fun K => HHk.getO (PySem.W.findCls K (.ref (He.ga K "Fits")) (.type "type") "__name__") (.builtin "getset_descriptor.__get__") (.builtin "type.__name__") (.ref (He.ga K "Fits")) (.type "type"),
  fun K => HHk.clsB K (He.ga K "Fits") "Fits",
  fun K => He.eqO (PySem.W.findIn K (.ref (He.ga K "Fits")) "word") (some none),
  fun K => He.eqO (PySem.W.findIn K (.ref (He.ga K "Fits")) "parts") (some none),
  fun K => decide (PySem.W.kitOne K (.ref (He.ga K "Fits")) (.ref (He.ga K "Paper")) = some true),
  fun K => decide (PySem.W.ks_superIn K (He.ga K "Fits") (He.ga K "Fits") "__init__" = some (some (.ref (He.ma K (He.ga K "Paper") "__init__")))),
  fun K => decide (PySem.W.typeIn K (.ref (He.ma K (He.ga K "Paper") "__init__")) = some (.type "function")),
  fun K => PySem.W.fnIn K (He.ma K (He.ga K "Paper") "__init__"),
  fun K => decide (PySem.W.mroIn K (He.ga K "Fits") (.ref (He.ga K "Fits")) = some true),
  fun K => He.eqO (PySem.W.findIn K (.ref (He.ga K "Fits")) "adder") (some none),
  fun K => PySem.W.makesIn K (He.ga K "Open"),
  fun K => decide (PySem.W.findIn K (.ref (He.ga K "Open")) "__init__" = some (some (.ref (He.ma K (He.ga K "Open") "__init__"))))]
def fs13 : HHk.Fs := [fun K => PySem.W.isFn K (.ref (He.ma K (He.ga K "Open") "__init__")),
  fun K => PySem.W.keepIn K (.ref (He.ga K "Open")),
  fun K => PySem.W.plainGet K (He.ga K "Open") Str.empty,
  fun K => PySem.W.hasDictIn K (He.ga K "Open"),
  fun K => PySem.W.plainOver K (He.ga K "Open"),
  fun K => decide (PySem.W.findIn K (.ref (He.ga K "Open")) "__setattr__" = some (some (.builtin "object.__setattr__"))),
  fun K => PySem.W.plainGet K (He.ga K "Open") "__class__",
  fun K => decide (PySem.W.findIn K (.ref (He.ga K "Open")) "__class__" = some (some (.builtin "object.__class__"))),
  fun K => decide (PySem.W.mroIn K (He.ga K "Open") (.type "object") = some true),
  fun K => PySem.W.readsIn K (He.ga K "Open") (.type "type"),
  fun K => HHk.getO (PySem.W.findCls K (.ref (He.ga K "Open")) (.type "type") "__name__") (.builtin "getset_descriptor.__get__") (.builtin "type.__name__") (.ref (He.ga K "Open")) (.type "type"),
  fun K => HHk.clsB K (He.ga K "Open") "Open",
  fun K => He.eqO (PySem.W.findIn K (.ref (He.ga K "Open")) "word") (some none),
  fun K => He.eqO (PySem.W.findIn K (.ref (He.ga K "Open")) "parts") (some none),
  fun K => decide (PySem.W.kitOne K (.ref (He.ga K "Open")) (.ref (He.ga K "Paper")) = some true),
  fun K => decide (PySem.W.ks_superIn K (He.ga K "Open") (He.ga K "Open") "__init__" = some (some (.ref (He.ma K (He.ga K "Paper") "__init__")))),
  fun K => decide (PySem.W.typeIn K (.ref (He.ma K (He.ga K "Paper") "__init__")) = some (.type "function")),
  fun K => PySem.W.fnIn K (He.ma K (He.ga K "Paper") "__init__"),
  fun K => decide (PySem.W.mroIn K (He.ga K "Open") (.ref (He.ga K "Open")) = some true),
  fun K => He.eqO (PySem.W.findIn K (.ref (He.ga K "Open")) "one") (some none)]
def fs14 : HHk.Fs := [fun K => He.eqO (PySem.W.findIn K (.ref (He.ga K "Open")) "other") (some none),
  fun K => decide (PySem.W.kitOne K (.ref (He.ga K "Open")) (.ref (He.ga K "Forced")) = some false),
  fun K => decide (PySem.W.kitOne K (.ref (He.ga K "Open")) (.ref (He.ga K "Open")) = some true),
  fun K => decide (PySem.W.findIn K (.ref (He.ga K "Open")) "__eq__" = some (some (.ref (He.ma K (He.ga K "Paper") "__eq__")))),
  fun K => PySem.W.isFn K (.ref (He.ma K (He.ga K "Paper") "__eq__")),
  fun K => decide (PySem.W.findIn K (.ref (He.ga K "Open")) "__ne__" = some (some (.builtin "object.__ne__"))),
  fun K => PySem.W.notFirst K (He.ga K "Open") (.ref (He.ga K "Open")),
  fun K => PySem.W.makesIn K (He.ga K "Forced"),
  fun K => decide (PySem.W.findIn K (.ref (He.ga K "Forced")) "__init__" = some (some (.ref (He.ma K (He.ga K "Forced") "__init__")))),
  fun K => PySem.W.isFn K (.ref (He.ma K (He.ga K "Forced") "__init__")),
  fun K => PySem.W.keepIn K (.ref (He.ga K "Forced")),
  fun K => PySem.W.plainGet K (He.ga K "Forced") Str.empty,
  fun K => PySem.W.hasDictIn K (He.ga K "Forced"),
  fun K => PySem.W.plainOver K (He.ga K "Forced"),
  fun K => decide (PySem.W.findIn K (.ref (He.ga K "Forced")) "__setattr__" = some (some (.builtin "object.__setattr__"))),
  fun K => PySem.W.plainGet K (He.ga K "Forced") "__class__",
  fun K => decide (PySem.W.findIn K (.ref (He.ga K "Forced")) "__class__" = some (some (.builtin "object.__class__"))),
  fun K => decide (PySem.W.mroIn K (He.ga K "Forced") (.type "object") = some true),
  fun K => PySem.W.readsIn K (He.ga K "Forced") (.type "type"),
  fun K => HHk.getO (PySem.W.findCls K (.ref (He.ga K "Forced")) (.type "type") "__name__") (.builtin "getset_descriptor.__get__") (.builtin "type.__name__") (.ref (He.ga K "Forced")) (.type "type")]
def fs15 : HHk.Fs := [fun K => HHk.clsB K (He.ga K "Forced") "Forced",
  fun K => He.eqO (PySem.W.findIn K (.ref (He.ga K "Forced")) "word") (some none),
  fun K => He.eqO (PySem.W.findIn K (.ref (He.ga K "Forced")) "parts") (some none),
  fun K => decide (PySem.W.kitOne K (.ref (He.ga K "Forced")) (.ref (He.ga K "Paper")) = some true),
  fun K => decide (PySem.W.ks_superIn K (He.ga K "Forced") (He.ga K "Forced") "__init__" = some (some (.ref (He.ma K (He.ga K "Paper") "__init__")))),
  fun K => decide (PySem.W.typeIn K (.ref (He.ma K (He.ga K "Paper") "__init__")) = some (.type "function")),
  fun K => PySem.W.fnIn K (He.ma K (He.ga K "Paper") "__init__"),
  fun K => decide (PySem.W.mroIn K (He.ga K "Forced") (.ref (He.ga K "Forced")) = some true),
  fun K => He.eqO (PySem.W.findIn K (.ref (He.ga K "Forced")) "outcome") (some none),
  fun K => He.eqO (PySem.W.findIn K (.ref (He.ga K "Forced")) "numbers") (some none),
  fun K => decide (PySem.W.kitOne K (.ref (He.ga K "Forced")) (.ref (He.ga K "Forced")) = some true),
  fun K => decide (PySem.W.kitOne K (.ref (He.ga K "Forced")) (.ref (He.ga K "Open")) = some false),
  fun K => decide (PySem.W.nsIn K mainGlobals "abs" = some none),
  fun K => decide (PySem.W.nsIn K mainGlobals "all" = some none),
  fun K => decide (PySem.W.nsIn K mainGlobals "bool" = some none),
  fun K => decide (PySem.W.nsIn K mainGlobals "enumerate" = some none),
  fun K => decide (PySem.W.nsIn K mainGlobals "int" = some none),
  fun K => decide (PySem.W.nsIn K mainGlobals "isinstance" = some none),
  fun K => decide (PySem.W.nsIn K mainGlobals "len" = some none),
  fun K => decide (PySem.W.nsIn K mainGlobals "list" = some none)]
def fs16 : HHk.Fs := [fun K => decide (PySem.W.nsIn K mainGlobals "min" = some none),
  fun K => decide (PySem.W.nsIn K mainGlobals "range" = some none),
  fun K => decide (PySem.W.nsIn K mainGlobals "set" = some none),
  fun K => decide (PySem.W.nsIn K mainGlobals "sorted" = some none),
  fun K => decide (PySem.W.nsIn K mainGlobals "sum" = some none),
  fun K => decide (PySem.W.nsIn K mainGlobals "tuple" = some none),
  fun K => HHk.intGB K "MOST_CASES" 16,
  fun K => HHk.intGB K "MOST_PLACES" 6]
def fs : HHk.Fs := fs0 ++ (fs1 ++ (fs2 ++ (fs3 ++ (fs4 ++ (fs5 ++ (fs6 ++ (fs7 ++ (fs8 ++ (fs9 ++ (fs10 ++ (fs11 ++ (fs12 ++ (fs13 ++ (fs14 ++ (fs15 ++ (fs16))))))))))))))))
def fn0 : HHk.Fn := [(fun K => (He.ga K "is_integer"), some ("is_integer", "is_integer", defArgs s_is_integer, .stmts (defBody s_is_integer), defScope s_is_integer, mainGlobals, [], true, builtinsNs)),
  (fun K => (He.ga K "is_within"), some ("is_within", "is_within", defArgs s_is_within, .stmts (defBody s_is_within), defScope s_is_within, mainGlobals, [], true, builtinsNs)),
  (fun K => (He.ga K "is_row"), some ("is_row", "is_row", defArgs s_is_row, .stmts (defBody s_is_row), defScope s_is_row, mainGlobals, [], true, builtinsNs)),
  (fun K => (He.ga K "are_bits"), some ("are_bits", "are_bits", defArgs s_are_bits, .stmts (defBody s_are_bits), defScope s_are_bits, mainGlobals, [], true, builtinsNs)),
  (fun K => (He.ga K "all_rows"), some ("all_rows", "all_rows", defArgs s_all_rows, .stmts (defBody s_all_rows), defScope s_all_rows, mainGlobals, [], true, builtinsNs)),
  (fun K => (He.ga K "cases_told"), some ("cases_told", "cases_told", defArgs s_cases_told, .stmts (defBody s_cases_told), defScope s_cases_told, mainGlobals, [], true, builtinsNs)),
  (fun K => (He.ga K "need_each_once"), some ("need_each_once", "need_each_once", defArgs s_need_each_once, .stmts (defBody s_need_each_once), defScope s_need_each_once, mainGlobals, [], true, builtinsNs)),
  (fun K => (He.ma K (He.ga K "Book") "__init__"), some ("__init__", "Book.__init__", defArgs s_Book_init, .stmts (defBody s_Book_init), defScope s_Book_init, mainGlobals, [], false, builtinsNs)),
  (fun K => (He.ma K (He.ga K "Book") "__len__"), some ("__len__", "Book.__len__", defArgs s_Book_len, .stmts (defBody s_Book_len), defScope s_Book_len, mainGlobals, [], true, builtinsNs)),
  (fun K => (He.ma K (He.ga K "Book") "__eq__"), some ("__eq__", "Book.__eq__", defArgs s_Book_eq, .stmts (defBody s_Book_eq), defScope s_Book_eq, mainGlobals, [], true, builtinsNs)),
  (fun K => (He.ma K (He.ga K "Book") "with_case"), some ("with_case", "Book.with_case", defArgs s_Book_with_case, .stmts (defBody s_Book_with_case), defScope s_Book_with_case, mainGlobals, [], true, builtinsNs)),
  (fun K => (He.ga K "need_book"), some ("need_book", "need_book", defArgs s_need_book, .stmts (defBody s_need_book), defScope s_need_book, mainGlobals, [], true, builtinsNs)),
  (fun K => (He.ga K "need_places"), some ("need_places", "need_places", defArgs s_need_places, .stmts (defBody s_need_places), defScope s_need_places, mainGlobals, [], true, builtinsNs)),
  (fun K => (He.ga K "need_row_of"), some ("need_row_of", "need_row_of", defArgs s_need_row_of, .stmts (defBody s_need_row_of), defScope s_need_row_of, mainGlobals, [], true, builtinsNs)),
  (fun K => (He.ga K "fixed"), some ("fixed", "fixed", defArgs s_fixed, .stmts (defBody s_fixed), defScope s_fixed, mainGlobals, [], true, builtinsNs)),
  (fun K => (He.ma K (He.ga K "Paper") "__init__"), some ("__init__", "Paper.__init__", defArgs s_Paper_init, .stmts (defBody s_Paper_init), defScope s_Paper_init, mainGlobals, [], true, builtinsNs)),
  (fun K => (He.ma K (He.ga K "Paper") "__eq__"), some ("__eq__", "Paper.__eq__", defArgs s_Paper_eq, .stmts (defBody s_Paper_eq), defScope s_Paper_eq, mainGlobals, [], true, builtinsNs)),
  (fun K => (He.ga K "is_bits"), some ("is_bits", "is_bits", defArgs s_is_bits, .stmts (defBody s_is_bits), defScope s_is_bits, mainGlobals, [], true, builtinsNs)),
  (fun K => (He.ga K "need_bits"), some ("need_bits", "need_bits", defArgs s_need_bits, .stmts (defBody s_need_bits), defScope s_need_bits, mainGlobals, [], true, builtinsNs)),
  (fun K => (He.ma K (He.ga K "Adder") "__init__"), some ("__init__", "Adder.__init__", defArgs s_Adder_init, .stmts (defBody s_Adder_init), defScope s_Adder_init, mainGlobals, ["__class__"], true, builtinsNs))]
def fn1 : HHk.Fn := [(fun K => (He.ma K (He.ga K "Adder") "outcome"), some ("outcome", "Adder.outcome", defArgs s_Adder_outcome, .stmts (defBody s_Adder_outcome), defScope s_Adder_outcome, mainGlobals, [], true, builtinsNs)),
  (fun K => (He.ga K "is_adder"), some ("is_adder", "is_adder", defArgs s_is_adder, .stmts (defBody s_is_adder), defScope s_is_adder, mainGlobals, [], true, builtinsNs)),
  (fun K => (He.ga K "need_adder"), some ("need_adder", "need_adder", defArgs s_need_adder, .stmts (defBody s_need_adder), defScope s_need_adder, mainGlobals, [], true, builtinsNs)),
  (fun K => (He.ga K "added"), some ("added", "added", defArgs s_added, .stmts (defBody s_added), defScope s_added, mainGlobals, [], true, builtinsNs)),
  (fun K => (He.ma K (He.ga K "Fits") "__init__"), some ("__init__", "Fits.__init__", defArgs s_Fits_init, .stmts (defBody s_Fits_init), defScope s_Fits_init, mainGlobals, ["__class__"], true, builtinsNs)),
  (fun K => (He.ma K (He.ga K "Quarrel") "__init__"), some ("__init__", "Quarrel.__init__", defArgs s_Quarrel_init, .stmts (defBody s_Quarrel_init), defScope s_Quarrel_init, mainGlobals, ["__class__"], true, builtinsNs)),
  (fun K => (He.ma K (He.ga K "Forced") "__init__"), some ("__init__", "Forced.__init__", defArgs s_Forced_init, .stmts (defBody s_Forced_init), defScope s_Forced_init, mainGlobals, ["__class__"], true, builtinsNs)),
  (fun K => (He.ma K (He.ga K "Open") "__init__"), some ("__init__", "Open.__init__", defArgs s_Open_init, .stmts (defBody s_Open_init), defScope s_Open_init, mainGlobals, ["__class__"], true, builtinsNs)),
  (fun K => (He.ga K "vector_of"), some ("vector_of", "vector_of", defArgs s_vector_of, .stmts (defBody s_vector_of), defScope s_vector_of, mainGlobals, [], true, builtinsNs)),
  (fun K => (He.ga K "numbers_in"), some ("numbers_in", "numbers_in", defArgs s_numbers_in, .stmts (defBody s_numbers_in), defScope s_numbers_in, mainGlobals, [], true, builtinsNs)),
  (fun K => (He.ga K "reduced"), some ("reduced", "reduced", defArgs s_reduced, .stmts (defBody s_reduced), defScope s_reduced, mainGlobals, [], true, builtinsNs)),
  (fun K => (He.ga K "wider"), some ("wider", "wider", defArgs s_wider, .stmts (defBody s_wider), defScope s_wider, mainGlobals, [], true, builtinsNs)),
  (fun K => (He.ga K "base_of"), some ("base_of", "base_of", defArgs s_base_of, .stmts (defBody s_base_of), defScope s_base_of, mainGlobals, [], true, builtinsNs)),
  (fun K => (He.ga K "adder_by"), some ("adder_by", "adder_by", defArgs s_adder_by, .stmts (defBody s_adder_by), defScope s_adder_by, mainGlobals, [], true, builtinsNs)),
  (fun K => (He.ga K "possible_base"), some ("possible_base", "possible_base", defArgs s_possible_base, .stmts (defBody s_possible_base), defScope s_possible_base, mainGlobals, [], true, builtinsNs)),
  (fun K => (He.ga K "quarrel"), some ("quarrel", "quarrel", defArgs s_quarrel, .stmts (defBody s_quarrel), defScope s_quarrel, mainGlobals, [], true, builtinsNs)),
  (fun K => (He.ga K "word_of"), some ("word_of", "word_of", defArgs s_word_of, .stmts (defBody s_word_of), defScope s_word_of, mainGlobals, [], true, builtinsNs)),
  (fun K => (He.ga K "all_adders"), some ("all_adders", "all_adders", defArgs s_all_adders, .stmts (defBody s_all_adders), defScope s_all_adders, mainGlobals, [], true, builtinsNs)),
  (fun K => (He.ga K "wrong_at"), some ("wrong_at", "wrong_at", defArgs s_wrong_at, .stmts (defBody s_wrong_at), defScope s_wrong_at, mainGlobals, [], true, builtinsNs)),
  (fun K => (He.ga K "fitting"), some ("fitting", "fitting", defArgs s_fitting, .stmts (defBody s_fitting), defScope s_fitting, mainGlobals, [], true, builtinsNs))]
def fn2 : HHk.Fn := [(fun K => (He.ga K "_law_well"), some ("_law_well", "_law_well", defArgs s__law_well, .stmts (defBody s__law_well), defScope s__law_well, mainGlobals, [], true, builtinsNs)),
  (fun K => (He.ga K "_law_sip"), some ("_law_sip", "_law_sip", defArgs s__law_sip, .stmts (defBody s__law_sip), defScope s__law_sip, mainGlobals, [], true, builtinsNs)),
  (fun K => (He.ga K "_law_pick"), some ("_law_pick", "_law_pick", defArgs s__law_pick, .stmts (defBody s__law_pick), defScope s__law_pick, mainGlobals, [], true, builtinsNs)),
  (fun K => (He.ga K "_law_rows"), some ("_law_rows", "_law_rows", defArgs s__law_rows, .stmts (defBody s__law_rows), defScope s__law_rows, mainGlobals, [], true, builtinsNs)),
  (fun K => (He.ga K "_law_adders"), some ("_law_adders", "_law_adders", defArgs s__law_adders, .stmts (defBody s__law_adders), defScope s__law_adders, mainGlobals, [], true, builtinsNs)),
  (fun K => (He.ga K "_law_gives"), some ("_law_gives", "_law_gives", defArgs s__law_gives, .stmts (defBody s__law_gives), defScope s__law_gives, mainGlobals, [], true, builtinsNs)),
  (fun K => (He.ga K "_law_fits"), some ("_law_fits", "_law_fits", defArgs s__law_fits, .stmts (defBody s__law_fits), defScope s__law_fits, mainGlobals, [], true, builtinsNs)),
  (fun K => (He.ga K "law"), some ("law", "law", defArgs s_law, .stmts (defBody s_law), defScope s_law, mainGlobals, [], true, builtinsNs))]
def fn : HHk.Fn := fn0 ++ (fn1 ++ (fn2))
abbrev RR : PySem.W.OpenRow := PySem.W.OpenLaw.row PySem.Challenge.rw_fourthlike_k60_two_adders_that_part
abbrev hk : PySem.W.Hook := HHk.hook 5 fs fn
def ob (s : PySem.W.SharedT) : HHk.Al := HHk.obsG 5 fs fn (HandSHeadRun.getT s)
theorem ob_eq (s : PySem.W.SharedT) : ob s = hk.obs s.abs := HHk.obsG_eq (HandSHeadRun.getT_eq s)
set_option maxHeartbeats 0 in
theorem run (w : World) : HandSHeadRun.RunEq RR (PySem.W.view RR.prog [73]) hk ob 9000 names w := by
  intro os
  kernel_rfl
end D60
/-! step lemmas: each opens one word of a reading -/
namespace HX
open PySem PySem.Spec PyProof.Rows L2

/-! ### rules for any kind of values -/
def CMulU (i j : Int) : Prop := IntMulOk i j
theorem CMulU.l {i j : Int} (h : -(2 ^ 64) < i ∧ i < 2 ^ 64) : CMulU i j := L2.CMul.ok (.inl h)
theorem CMulU.r {i j : Int} (h : -(2 ^ 64) < j ∧ j < 2 ^ 64) : CMulU i j := L2.CMul.ok (.inr h)
theorem CMulU.w {i j : Int} (h : i.natAbs.log2 + j.natAbs.log2 < 1000000) : CMulU i j := L2.CMulW.ok h
section
variable {X : Cx}
theorem op_mulU : OpR X (binaryOp .Mult) (rI CMulU fun i j => .int (i * j)) := opI fun _ _ _ _ _ _ _ hc q => mul_int q hc
abbrev op_fdivU : OpR X (binaryOp .FloorDiv) (rI CDiv fun i j => .int (i / j)) := op_fdiv
def rMod : R2 := rI (fun _ j => 0 < j) fun i j => .int (i % j)
theorem op_modU : OpR X (binaryOp .Mod) rMod := op_mod
def rAddS : R2 := fun x y H Q => ∃ i j, x = .str i ∧ y = .str j ∧ i.length + j.length ≤ sizeLine ∧ Q (.str (i ++ j)) H
def rAddU (K : PySem.W.Frag) : R2 := fun x y H Q => rI0 (fun i j => .int (i + j)) x y H Q ∨ rAddS x y H Q ∨ rCat x y H Q ∨ rCatA K x y H Q
theorem op_addU : OpR X (binaryOp .Add) (rAddU X.K) := op_add.or (OpR.or (r := rAddS) op_add_str (op_cat.or op_catA))
def rEqU (K : PySem.W.Frag) : R2 := fun x y H Q => rEq x y H Q ∨ rEqD K x y H Q
def rNeU (K : PySem.W.Frag) : R2 := fun x y H Q => rNe x y H Q ∨ rNeD K x y H Q
theorem op_eqU (hu : X.A.units + 64 < cLine) : OpR X (compareOp .Eq) (rEqU X.K) := op_eq.or (op_eqD hu)
theorem op_neU (hu : X.A.units + 64 < cLine) : OpR X (compareOp .NotEq) (rNeU X.K) := op_ne.or (op_neD hu)
def rLenS (K : PySem.W.Frag) : List V → Hp → VK → Prop := fun xs H Q => ∃ p ys, xs = [.ref p] ∧ (SqL K H p ys ∨ SqT K H p ys) ∧ Q (.int ys.length) H
def rLenT : List V → Hp → VK → Prop := fun xs H Q => ∃ z, xs = [.str z] ∧ z.length ≤ sizeLine ∧ Q (.int z.length) H
def rLenU (K : PySem.W.Frag) : List V → Hp → VK → Prop := fun xs H Q => rLenS K xs H Q ∨ rLenT xs H Q
theorem call_lenU : CallR X (.builtin "len") (rLenU X.K) := CallR.or (r := rLenS X.K) call_len_seq (r' := rLenT) call_len_str
def rSlU (K : PySem.W.Frag) : V → Option Int → Option Int → Hp → VK → Prop := fun x lo hi H Q => rSlL K x lo hi H Q ∨ rSlA K x lo hi H Q ∨ rSlS x lo hi H Q
theorem sl_U : SlR X (rSlU X.K) := sl_list.or (sl_tupA.or sl_str)
def rInSg : R2 := fun x y H Q => ∃ (c : Nat) (z : Str), x = .str ⟨#[c]⟩ ∧ y = .str z ∧ Q (.bl (decide (c ∈ z.cps.toList))) H
def rNiSg : R2 := fun x y H Q => ∃ (c : Nat) (z : Str), x = .str ⟨#[c]⟩ ∧ y = .str z ∧ Q (.bl (!decide (c ∈ z.cps.toList))) H
def rInU (K : PySem.W.Frag) : R2 := fun x y H Q => rIn K false x y H Q ∨ rInSg x y H Q
def rNiU (K : PySem.W.Frag) : R2 := fun x y H Q => rIn K true x y H Q ∨ rNiSg x y H Q
theorem op_inU : OpR X (compareOp .In) (rInU X.K) := OpR.or op_in_seq (r' := rInSg) op_in_sign
theorem op_notInU : OpR X (compareOp .NotIn) (rNiU X.K) := OpR.or op_notIn_seq (r' := rNiSg) op_notIn_sign
end

/-! ### the same, the written part named (a comprehension's block has the same) -/
section
variable {X : Cx} {K : PySem.W.Frag}
theorem op_addK (hK : X.K = K := by rfl) : OpR X (binaryOp .Add) (rAddU K) := by cases hK; exact op_addU
theorem op_eqK (hu : X.A.units + 64 < cLine) (hK : X.K = K := by rfl) : OpR X (compareOp .Eq) (rEqU K) := by cases hK; exact op_eqU hu
theorem op_neK (hu : X.A.units + 64 < cLine) (hK : X.K = K := by rfl) : OpR X (compareOp .NotEq) (rNeU K) := by cases hK; exact op_neU hu
theorem call_lenK (hK : X.K = K := by rfl) : CallR X (.builtin "len") (rLenU K) := by cases hK; exact call_lenU
theorem sl_K (hK : X.K = K := by rfl) : SlR X (rSlU K) := by cases hK; exact sl_U
theorem op_inK (hK : X.K = K := by rfl) : OpR X (compareOp .In) (rInU K) := by cases hK; exact op_inU
theorem op_notInK (hK : X.K = K := by rfl) : OpR X (compareOp .NotIn) (rNiU K) := by cases hK; exact op_notInU
theorem ix_K (hK : X.K = K := by rfl) : IxR X (rIx K) := by cases hK; exact ix_seq
theorem call_isiK' (hK : X.K = K := by rfl) : CallR X (.builtin "isinstance") (rIsi K) := by cases hK; exact call_isi
def rListOf (K : PySem.W.Frag) : List V → Hp → VK → Prop := fun xs H Q => ∃ p ys, xs = [.ref p] ∧ (SqL K H p ys ∨ SqT K H p ys) ∧ ∀ l, H l = none → Q (.ref l) (upd H l (.lst ys))
theorem call_listK (hK : X.K = K := by rfl) : CallR X (.type "list") (rListOf K) := by cases hK; exact call_list_of
def rTupleOf (K : PySem.W.Frag) : List V → Hp → VK → Prop := fun xs H Q => ∃ p ys, xs = [.ref p] ∧ ((SqL K H p ys ∧ ∀ l, H l = none → Q (.ref l) (upd H l (.tup ys))) ∨ (SqT K H p ys ∧ Q (.ref p) H))
theorem call_tupleK (hK : X.K = K := by rfl) : CallR X (.type "tuple") (rTupleOf K) := by cases hK; exact call_tuple_of
theorem cr_sumK (hc : X.calm = true) (hK : X.K = K := by rfl) : CallR X (.builtin "sum") (rSum K) := by cases hK; exact cr_sum hc
theorem cr_maxK (hc : X.calm = true) (hK : X.K = K := by rfl) : CallR X (.builtin "max") (rMax K) := by cases hK; exact cr_max hc
theorem cr_minK' (hc : X.calm = true) (hK : X.K = K := by rfl) : CallR X (.builtin "min") (rMin K) := by cases hK; exact cr_min hc
theorem cr_anyK (hc : X.calm = true) (hK : X.K = K := by rfl) : CallR X (.builtin "any") (rAny K) := by cases hK; exact cr_any hc
theorem cr_allK (hc : X.calm = true) (hK : X.K = K := by rfl) : CallR X (.builtin "all") (rAll K) := by cases hK; exact cr_all hc
theorem pi_listK {tg l : Expr} {tl : TE} (hl : PE X l tl) (hK : X.K = K := by rfl) : PI X tg l (iList K tl) := by cases hK; exact pi_list hl
theorem pi_tupK {tg l : Expr} {tl : TE} (hl : PE X l tl) (hK : X.K = K := by rfl) : PI X tg l (iTup K tl) := by cases hK; exact pi_tup hl
theorem pg_tupK {es : List Expr} {k : Nat} {pos : Pos} {t : TGs} (n : Nat) (hc : X.calm = true) (h : PGs X es t)
    (hn : (assignEach es X.env).length = n := by rfl) (hst : (assignEach es X.env).findIdx? (·.1) = none := by rfl) (hK : X.K = K := by rfl) : PG X (.Tuple es k pos) (gTup K n t) := by cases hK; exact pg_tup hc h hn hst
theorem pg_unlK {es : List Expr} {k : Nat} {pos : Pos} {t : TGs} (n : Nat) (hc : X.calm = true) (h : PGs X es t)
    (hn : (assignEach es X.env).length = n := by rfl) (hst : (assignEach es X.env).findIdx? (·.1) = none := by rfl) (hK : X.K = K := by rfl) : PG X (.Tuple es k pos) (gUnl K n t) := by cases hK; exact pg_unl hc h hn hst
end

theorem start_ {t : TS} {D : Ends} {N : List Str} {vs : List V} {σ : L2.St} {H : Hp} (e : start N vs = σ) (h : t D σ H) : t D (start N vs) H := by rw [e]; exact h
/-! ### statements -/
section
variable {σ : L2.St} {H : Hp} {nx bk ct : L2.St → Hp → Prop} {rt : VK} {t u : TS} {te : TE} {g : TG} {c : TT}
theorem seq_ (h : t ⟨u ⟨nx, rt, bk, ct⟩, rt, bk, ct⟩ σ H) : tSeq t u ⟨nx, rt, bk, ct⟩ σ H := h
theorem next_ (h : nx σ H) : tNext ⟨nx, rt, bk, ct⟩ σ H := h
theorem brk_ (h : bk σ H) : tBreak ⟨nx, rt, bk, ct⟩ σ H := h
theorem cont_ (h : ct σ H) : tCont ⟨nx, rt, bk, ct⟩ σ H := h
theorem asg_ (h : te σ H fun x H1 => g x σ H1 nx) : tAsg te g ⟨nx, rt, bk, ct⟩ σ H := h
theorem drop_ (h : te σ H fun _ H1 => nx σ H1) : tDrop te ⟨nx, rt, bk, ct⟩ σ H := h
theorem ret_ (h : te σ H rt) : tRet te ⟨nx, rt, bk, ct⟩ σ H := h
theorem retN_ (h : rt .non H) : tRetN ⟨nx, rt, bk, ct⟩ σ H := h
theorem ifS_ (h : c σ H fun b H1 => if b = true then t ⟨nx, rt, bk, ct⟩ σ H1 else u ⟨nx, rt, bk, ct⟩ σ H1) : tIfS c t u ⟨nx, rt, bk, ct⟩ σ H := h
theorem par_ {i j : Nat} {ta : TA} (h : ta σ H fun vs H1 => ∃ v w, vs = [v, w] ∧ gName i v σ H1 fun σ H => gName j w σ H nx) : tPar i j ta ⟨nx, rt, bk, ct⟩ σ H := h
theorem par3_ {i j l : Nat} {ta : TA} (h : ta σ H fun vs H1 => ∃ u v w, vs = [u, v, w] ∧ gName i u σ H1 fun σ H => gName j v σ H fun σ H => gName l w σ H nx) : tPar3 i j l ta ⟨nx, rt, bk, ct⟩ σ H := h
theorem e2_ {v w : V} {P : V → V → Prop} (h : P v w) : ∃ a b, [v, w] = [a, b] ∧ P a b := ⟨v, w, rfl, h⟩
theorem e3_ {v w z : V} {P : V → V → V → Prop} (h : P v w z) : ∃ a b c, [v, w, z] = [a, b, c] ∧ P a b c := ⟨v, w, z, rfl, h⟩
end
theorem cut_ {σ : L2.St} {H : Hp} {nx bk ct : L2.St → Hp → Prop} {rt : VK} {t u : TS} (Mid : L2.St → Hp → Prop) (h : t ⟨Mid, rt, bk, ct⟩ σ H) (h2 : ∀ σ' H', Mid σ' H' → u ⟨nx, rt, bk, ct⟩ σ' H') : Evl.tCut t u ⟨nx, rt, bk, ct⟩ σ H := ⟨Mid, h, h2⟩
/-! ### targets -/
section
variable {σ : L2.St} {H : Hp} {R : L2.St → Hp → Prop} {v : V} {i : Nat} {a : Option V} {t : TG} {ts : TGs}
theorem gn0_ (h : R (some v :: σ) H) : gName 0 v (a :: σ) H R := h
theorem gnS_ (h : gName i v σ H fun σ' H' => R (a :: σ') H') : gName (i + 1) v (a :: σ) H R := h
theorem gcons_ {vs : List V} (h : t v σ H fun σ' H' => ts vs σ' H' R) : gCons t ts (v :: vs) σ H R := ⟨v, vs, rfl, h⟩
theorem gnil_ (h : R σ H) : gNil [] σ H R := ⟨rfl, h⟩
theorem gtup_ {K : PySem.W.Frag} {n : Nat} {p : Addr} {xs : List V} (hT : SqT K H p xs) (hn : xs.length = n) (h : ts xs σ H R) : gTup K n ts (.ref p) σ H R := ⟨p, xs, rfl, hT, hn, h⟩
theorem gunl_ {K : PySem.W.Frag} {n : Nat} {p : Addr} {xs : List V} (hT : SqL K H p xs) (hn : xs.length = n) (h : ts xs σ H R) : gUnl K n ts (.ref p) σ H R := ⟨p, xs, rfl, hT, hn, h⟩
theorem gsub_ {to ti : TE} {s : TSet} (h : to σ H fun o H1 => ti σ H1 fun i H2 => s o i v H2 fun H3 => R σ H3) : gSub to ti s v σ H R := h
theorem setL_ {p : Addr} {xs : List V} {k : Int} {j : Nat} {P : Hp → Prop} (hp : H p = some (.lst xs)) (hj : ixN xs.length k = some j) (h : P (upd H p (.lst (xs.set j v)))) : rSetL (.ref p) (.int k) v H P := ⟨p, xs, k, j, rfl, rfl, hp, hj, h⟩
end
/-! ### expressions -/
section
variable {σ : L2.St} {H : Hp} {Q : VK} {QA : List V → Hp → Prop} {QB : Bool → Hp → Prop} {v x y : V} {i : Nat} {a : Option V} {ta tb te : TE} {tr : TA} {t u : TT} {r : R2} {K : PySem.W.Frag}
theorem var0_ (h : Q v H) : tVar 0 (some v :: σ) H Q := ⟨v, rfl, h⟩
theorem varS_ (h : tVar i σ H Q) : tVar (i + 1) (a :: σ) H Q := h
theorem c_ (h : Q v H) : tC v σ H Q := h
theorem op_ (h : ta σ H fun x H1 => tb σ H1 fun y H2 => r x y H2 Q) : tOp r ta tb σ H Q := h
theorem un_ {f : V → Hp → VK → Prop} (h : ta σ H fun x H1 => f x H1 Q) : tUn f ta σ H Q := h
theorem nil_ (h : QA [] H) : tNil σ H QA := h
theorem cons_ (h : ta σ H fun x H1 => tr σ H1 fun xs H2 => QA (x :: xs) H2) : tCons ta tr σ H QA := h
theorem tup_ (h : tr σ H fun xs H1 => xs.length ≤ sizeLine ∧ ∀ p, H1 p = none → Q (.ref p) (upd H1 p (.tup xs))) : tTup tr σ H Q := h
theorem lst_ (h : tr σ H fun xs H1 => xs.length ≤ sizeLine ∧ ∀ p, H1 p = none → Q (.ref p) (upd H1 p (.lst xs))) : tLst tr σ H Q := h
theorem call_ {sp : Sp} {dvs : List V} {E : XK} (h : tr σ H fun vs H1 => sp (vs ++ dvs) H1 Q E) : tCall sp dvs E tr σ H Q := h
theorem cb_ {f : List V → Hp → VK → Prop} (h : tr σ H fun vs H1 => f vs H1 Q) : tCB f tr σ H Q := h
theorem i0_ {g : Int → Int → V} {i j : Int} (h : Q (g i j) H) : rI0 g (.int i) (.int j) H Q := ⟨i, j, rfl, rfl, h⟩
theorem i_ {C : Int → Int → Prop} {g : Int → Int → V} {i j : Int} (hc : C i j) (h : Q (g i j) H) : rI C g (.int i) (.int j) H Q := ⟨i, j, rfl, rfl, hc, h⟩
theorem u_ {g : Int → V} {i : Int} (h : Q (g i) H) : rU g (.int i) H Q := ⟨i, rfl, h⟩
/-- a remainder: a letter and what is known of it -/
theorem mod_ {i j : Int} (hj : 0 < j) (h : ∀ z, i % j = z → 0 ≤ z → z < j → Q (.int z) H) : rMod (.int i) (.int j) H Q := ⟨i, j, rfl, rfl, hj, h _ rfl (Int.emod_nonneg i (by omega)) (Int.emod_lt_of_pos i hj)⟩
theorem add_int_ {i j : Int} (h : Q (.int (i + j)) H) : rAddU K (.int i) (.int j) H Q := .inl ⟨i, j, rfl, rfl, h⟩
theorem add_str_ {i j : Str} (hl : i.length + j.length ≤ sizeLine) (h : Q (.str (i ++ j)) H) : rAddU K (.str i) (.str j) H Q := .inr (.inl ⟨i, j, rfl, rfl, hl, h⟩)
theorem add_lst_ {l b : Addr} {xs zs : List V} (hl : H l = some (.lst xs)) (hb : H b = some (.lst zs)) (hz : xs.length + zs.length ≤ sizeLine) (h : ∀ p, H p = none → Q (.ref p) (upd H p (.lst (xs ++ zs)))) : rAddU K (.ref l) (.ref b) H Q := .inr (.inr (.inl ⟨l, b, xs, zs, rfl, rfl, hl, hb, hz, h⟩))
theorem eq_int_ {i j : Int} (h : Q (.bl (decide (i = j))) H) : rEqU K (.int i) (.int j) H Q := .inl ⟨rfl, by
  have e : decide (V.int i = V.int j) = decide (i = j) := decide_eq_decide.mpr ⟨V.int.inj, congrArg V.int⟩
  rw [e]; exact h⟩
theorem ne_int_ {i j : Int} (h : Q (.bl (!decide (i = j))) H) : rNeU K (.int i) (.int j) H Q := .inl ⟨rfl, by
  have e : decide (V.int i = V.int j) = decide (i = j) := decide_eq_decide.mpr ⟨V.int.inj, congrArg V.int⟩
  rw [e]; exact h⟩
theorem eq_bl_ {i j : Bool} (h : Q (.bl (decide (i = j))) H) : rEqU K (.bl i) (.bl j) H Q := .inl ⟨rfl, by
  have e : decide (V.bl i = V.bl j) = decide (i = j) := decide_eq_decide.mpr ⟨V.bl.inj, congrArg V.bl⟩
  rw [e]; exact h⟩
theorem ne_bl_ {i j : Bool} (h : Q (.bl (!decide (i = j))) H) : rNeU K (.bl i) (.bl j) H Q := .inl ⟨rfl, by
  have e : decide (V.bl i = V.bl j) = decide (i = j) := decide_eq_decide.mpr ⟨V.bl.inj, congrArg V.bl⟩
  rw [e]; exact h⟩
theorem eq_str_ {i j : Str} (h : Q (.bl (decide (i = j))) H) : rEqU K (.str i) (.str j) H Q := .inl ⟨rfl, by
  have e : decide (V.str i = V.str j) = decide (i = j) := decide_eq_decide.mpr ⟨V.str.inj, congrArg V.str⟩
  rw [e]; exact h⟩
theorem ne_str_ {i j : Str} (h : Q (.bl (!decide (i = j))) H) : rNeU K (.str i) (.str j) H Q := .inl ⟨rfl, by
  have e : decide (V.str i = V.str j) = decide (i = j) := decide_eq_decide.mpr ⟨V.str.inj, congrArg V.str⟩
  rw [e]; exact h⟩
theorem len_l_ {p : Addr} {ys : List V} (hs : SqL K H p ys) (h : Q (.int ys.length) H) : rLenU K [.ref p] H Q := .inl ⟨p, ys, rfl, .inl hs, h⟩
theorem len_t_ {p : Addr} {ys : List V} (hs : SqT K H p ys) (h : Q (.int ys.length) H) : rLenU K [.ref p] H Q := .inl ⟨p, ys, rfl, .inr hs, h⟩
theorem len_s_ {z : Str} (hz : z.length ≤ sizeLine) (h : Q (.int z.length) H) : rLenU K [.str z] H Q := .inr ⟨z, rfl, hz, h⟩
theorem ixL_ {p : Addr} {xs : List V} {i : Int} (hs : SqL K H p xs) (hv : atI xs i = some v) (h : Q v H) : rIx K (.ref p) (.int i) H Q := .inl ⟨p, xs, i, v, rfl, rfl, hs, hv, h⟩
theorem ixT_ {p : Addr} {xs : List V} {i : Int} (hs : SqT K H p xs) (hv : atI xs i = some v) (h : Q v H) : rIx K (.ref p) (.int i) H Q := .inr (.inl ⟨p, xs, i, v, rfl, rfl, hs, hv, h⟩)
theorem slL_ {p : Addr} {xs : List V} {lo hi : Option Int} (hs : SqL K H p xs) (h : ∀ q, H q = none → Q (.ref q) (upd H q (.lst (cutV xs lo hi)))) : rSlU K (.ref p) lo hi H Q := .inl ⟨p, xs, rfl, hs, h⟩
theorem sl_ {f : V → Option Int → Option Int → Hp → VK → Prop} {tl th : TO} (h : te σ H fun x H1 => tl σ H1 fun l H2 => th σ H2 fun u H3 => f x l u H3 Q) : tSl f te tl th σ H Q := h
theorem nopart_ {QO : Option Int → Hp → Prop} (h : QO none H) : tNoPart σ H QO := h
theorem part_ {QO : Option Int → Hp → Prop} (h : te σ H fun x H1 => ∃ i, x = .int i ∧ QO (some i) H1) : tPart te σ H QO := h
theorem eint_ {i : Int} {P : Int → Prop} (h : P i) : ∃ j, V.int i = .int j ∧ P j := ⟨i, rfl, h⟩
theorem eref_ {i : Addr} {P : Addr → Prop} (h : P i) : ∃ j, V.ref i = .ref j ∧ P j := ⟨i, rfl, h⟩
theorem ebl_ {i : Bool} {P : Bool → Prop} (h : P i) : ∃ j, V.bl i = .bl j ∧ P j := ⟨i, rfl, h⟩
/-! tests -/
theorem test_ (h : te σ H fun x H' => ∃ k, x = .bl k ∧ QB k H') : tTest te σ H QB := h
theorem b_ (h : te σ H fun x H' => ∃ k, x = .bl k ∧ QB k H') : tB te σ H QB := h
theorem and_ (h : t σ H fun c H1 => if c = true then u σ H1 QB else QB false H1) : tAnd t u σ H QB := h
theorem or_ (h : t σ H fun c H1 => if c = true then QB true H1 else u σ H1 QB) : tOr t u σ H QB := h
theorem not_ (h : t σ H fun c H1 => QB (!c) H1) : tNot t σ H QB := h
theorem andV_ (h : ta σ H fun x H1 => ∃ c, x = .bl c ∧ if c = true then tb σ H1 Q else Q (.bl false) H1) : tAndV ta tb σ H Q := h
theorem orV_ (h : ta σ H fun x H1 => ∃ c, x = .bl c ∧ if c = true then Q (.bl true) H1 else tb σ H1 Q) : tOrV ta tb σ H Q := h
theorem notV_ (h : ta σ H fun x H1 => ∃ c, x = .bl c ∧ Q (.bl (!c)) H1) : tNotV ta σ H Q := h
theorem if_ (h : t σ H fun c H1 => if c = true then ta σ H1 Q else tb σ H1 Q) : tIf t ta tb σ H Q := h
theorem isN_ {x : V} (h : Q (.bl (decide (x = .non))) H) : (fun (x y : V) H (Q : VK) => y = .non ∧ Q (.bl (decide (x = .non))) H) x .non H Q := ⟨rfl, h⟩
theorem enon_ {P : Prop} (h : P) : V.non = .non ∧ P := ⟨rfl, h⟩
theorem yes_ {QT : Bool → Hp → Prop} (h : QT true H) : tYes σ H QT := h
/-! iterations -/
theorem itup_ {R : It → Hp → Prop} (h : te σ H fun x H1 => ∃ a, x = .ref a ∧ (∃ xs, SqT K H1 a xs) ∧ R (Itt K a) H1) : iTup K te σ H R := h
theorem ilst_ {R : It → Hp → Prop} (h : te σ H fun x H1 => ∃ a, x = .ref a ∧ (∃ xs, SqL K H1 a xs) ∧ R (Itl K a) H1) : iList K te σ H R := h
theorem irng1_ {R : It → Hp → Prop} (h : tr σ H fun vs H1 => ∃ j : Int, vs = [.int j] ∧ -(2 ^ 62) ≤ j ∧ j < 2 ^ 62 ∧ R (Itr 0 j.toNat) H1) : iRng1 tr σ H R := h
theorem irng2_ {R : It → Hp → Prop} (h : tr σ H fun vs H1 => ∃ i j : Int, vs = [.int i, .int j] ∧ (-(2 ^ 62) ≤ i ∧ i < 2 ^ 62 ∧ -(2 ^ 62) ≤ j ∧ j < 2 ^ 62) ∧ R (Itr i (j - i).toNat) H1) : iRng2 tr σ H R := h
theorem erng1_ {R : It → Hp → Prop} {i : Int} (hi : -(2 ^ 62) ≤ i ∧ i < 2 ^ 62) (h : R (Itr 0 i.toNat) H) : ∃ j : Int, [V.int i] = [.int j] ∧ -(2 ^ 62) ≤ j ∧ j < 2 ^ 62 ∧ R (Itr 0 j.toNat) H := ⟨i, rfl, hi.1, hi.2, h⟩
theorem etup_ {R : It → Hp → Prop} {p : Addr} {xs : List V} (hT : SqT K H p xs) (h : R (Itt K p) H) : ∃ a, V.ref p = .ref a ∧ (∃ xs, SqT K H a xs) ∧ R (Itt K a) H := ⟨p, rfl, ⟨xs, hT⟩, h⟩
theorem elst_ {R : It → Hp → Prop} {p : Addr} {xs : List V} (hT : SqL K H p xs) (h : R (Itl K p) H) : ∃ a, V.ref p = .ref a ∧ (∃ xs, SqL K H a xs) ∧ R (Itl K a) H := ⟨p, rfl, ⟨xs, hT⟩, h⟩
end
theorem iteT_ {b : Bool} {A B : Prop} (e : b = true) (h : A) : if b = true then A else B := by rw [if_pos e]; exact h
theorem iteF_ {b : Bool} {A B : Prop} (e : b = false) (h : B) : if b = true then A else B := by rw [e]; exact h
theorem ited_ {c A B : Prop} [Decidable c] (h1 : c → A) (h2 : ¬ c → B) : if decide c = true then A else B := by
  by_cases h : c
  · rw [if_pos (decide_eq_true h)]; exact h1 h
  · rw [if_neg (by rw [decide_eq_false h]; exact Bool.false_ne_true)]; exact h2 h
theorem itend_ {c A B : Prop} [Decidable c] (h1 : ¬ c → A) (h2 : c → B) : if (!decide c) = true then A else B := by
  by_cases h : c
  · rw [decide_eq_true h]; exact h2 h
  · rw [decide_eq_false h]; exact h1 h
theorem joinC_ {c : Bool} {x y : V} {σ : L2.St} {H : Hp} {Q : VK} (h : ∀ v, (v = x ∨ v = y) → Q v H) : if c = true then tC x σ H Q else tC y σ H Q := by
  cases c
  · exact h y (.inr rfl)
  · exact h x (.inl rfl)
theorem iteb_ {b : Bool} {A B : Prop} (h1 : b = true → A) (h2 : b = false → B) : if b = true then A else B := by
  cases b
  · exact h2 rfl
  · exact h1 rfl
theorem sz_ {n : Nat} {P : Prop} (h : Nat.ble n 1000 = true) (p : P) : n ≤ sizeLine ∧ P := ⟨Nat.le_of_lt (small1000 (Nat.le_of_ble_eq_true h)), p⟩
theorem size_ {n : Nat} (h : n ≤ 100000) : n ≤ sizeLine := Nat.le_trans h (by decide)
theorem isi_ {K : PySem.W.Frag} {x c : V} {t u : Value} {b : Bool} {H : Hp} {Q : VK} (k : ClsV c u) (ty : TyX K H x t) (e : PySem.W.kitOne K t u = some b) (q : Q (.bl b) H) : rIsi K [x, c] H Q := ⟨x, c, t, u, b, rfl, k, ty, e, q⟩

/-! ### a loop over a written tuple, turn by turn -/
def UnrT (K : PySem.W.Frag) (a : Addr) (all : List V) (g : TG) (tb : TS) (nx : L2.St → Hp → Prop) (rt : VK) : List V → L2.St → Hp → Prop
  | [], σ, H => SqT K H a all ∧ nx σ H
  | x :: xs, σ, H => SqT K H a all ∧ g x σ H fun σ2 H2 => tb ⟨UnrT K a all g tb nx rt xs, rt, nx, UnrT K a all g tb nx rt xs⟩ σ2 H2

theorem isi_int_int {K : PySem.W.Frag} {i : Int} {H : Hp} {Q : VK} (q : Q (.bl true) H) : rIsi K [.int i, .ty "int"] H Q := isi_ (.ty _) (.base (.int _)) (kit_ty (by decide +kernel)) q
theorem isi_int_bool {K : PySem.W.Frag} {i : Int} {H : Hp} {Q : VK} (q : Q (.bl false) H) : rIsi K [.int i, .ty "bool"] H Q := isi_ (.ty _) (.base (.int _)) (kit_ty (by decide +kernel)) q
theorem isi_bl_bool {K : PySem.W.Frag} {i : Bool} {H : Hp} {Q : VK} (q : Q (.bl true) H) : rIsi K [.bl i, .ty "bool"] H Q := isi_ (.ty _) (.base (.bl _)) (kit_ty (by decide +kernel)) q
theorem isi_bl_int {K : PySem.W.Frag} {i : Bool} {H : Hp} {Q : VK} (q : Q (.bl true) H) : rIsi K [.bl i, .ty "int"] H Q := isi_ (.ty _) (.base (.bl _)) (kit_ty (by decide +kernel)) q
def rInt1 : List V → Hp → VK → Prop := fun xs H Q => (∃ i, xs = [.int i] ∧ Q (.int i) H) ∨ ∃ k, xs = [.bl k] ∧ Q (.int (if k then 1 else 0)) H
theorem call_intU {X : Cx} : CallR X (.type "int") rInt1 := call_int1
theorem int_int_ {i : Int} {H : Hp} {Q : VK} (q : Q (.int i) H) : rInt1 [.int i] H Q := .inl ⟨i, rfl, q⟩
theorem int_bl_ {b : Bool} {H : Hp} {Q : VK} (q : Q (.int (if b then 1 else 0)) H) : rInt1 [.bl b] H Q := .inr ⟨b, rfl, q⟩
def rAbs : List V → Hp → VK → Prop := fun xs H Q => ∃ i, xs = [.int i] ∧ Q (.int (if i < 0 then -i else i)) H
theorem call_absU {X : Cx} : CallR X (.builtin "abs") rAbs := call_abs
theorem abs_ {i : Int} {H : Hp} {Q : VK} (q : Q (.int (if i < 0 then -i else i)) H) : rAbs [.int i] H Q := ⟨i, rfl, q⟩
def rMax2 : List V → Hp → VK → Prop := fun xs H Q => ∃ i j, xs = [.int i, .int j] ∧ Q (.int (if j > i then j else i)) H
theorem call_maxU {X : Cx} (hc : X.calm = true) : CallR X (.builtin "max") rMax2 := call_max2 hc
theorem max2_ {i j : Int} {H : Hp} {Q : VK} (q : Q (.int (if j > i then j else i)) H) : rMax2 [.int i, .int j] H Q := ⟨i, j, rfl, q⟩
def rMin2 : List V → Hp → VK → Prop := fun xs H Q => ∃ i j, xs = [.int i, .int j] ∧ Q (.int (if j < i then j else i)) H
theorem call_minU {X : Cx} (hc : X.calm = true) : CallR X (.builtin "min") rMin2 := call_min2 hc
theorem min2_ {i j : Int} {H : Hp} {Q : VK} (q : Q (.int (if j < i then j else i)) H) : rMin2 [.int i, .int j] H Q := ⟨i, j, rfl, q⟩
def rIsN : R2 := fun x y H Q => y = .non ∧ Q (.bl (decide (x = .non))) H
def rNotN : R2 := fun x y H Q => y = .non ∧ Q (.bl (!decide (x = .non))) H
theorem op_isNU {X : Cx} : OpR X (compareOp .Is) rIsN := op_isN
theorem op_notNU {X : Cx} : OpR X (compareOp .IsNot) rNotN := op_notN
theorem isN0_ {H : Hp} {Q : VK} (q : Q (.bl true) H) : rIsN .non .non H Q := ⟨rfl, q⟩
theorem isNi_ {i : Int} {H : Hp} {Q : VK} (q : Q (.bl false) H) : rIsN (.int i) .non H Q := ⟨rfl, q⟩
theorem isNr_ {i : Addr} {H : Hp} {Q : VK} (q : Q (.bl false) H) : rIsN (.ref i) .non H Q := ⟨rfl, q⟩
theorem isNs_ {i : Str} {H : Hp} {Q : VK} (q : Q (.bl false) H) : rIsN (.str i) .non H Q := ⟨rfl, q⟩
theorem notN0_ {H : Hp} {Q : VK} (q : Q (.bl false) H) : rNotN .non .non H Q := ⟨rfl, q⟩
theorem notNi_ {i : Int} {H : Hp} {Q : VK} (q : Q (.bl true) H) : rNotN (.int i) .non H Q := ⟨rfl, q⟩
theorem notNr_ {i : Addr} {H : Hp} {Q : VK} (q : Q (.bl true) H) : rNotN (.ref i) .non H Q := ⟨rfl, q⟩
theorem notNs_ {i : Str} {H : Hp} {Q : VK} (q : Q (.bl true) H) : rNotN (.str i) .non H Q := ⟨rfl, q⟩
theorem e1int_ {i : Int} {P : Int → Prop} (h : P i) : ∃ j, [V.int i] = [.int j] ∧ P j := ⟨i, rfl, h⟩
theorem e2int_ {i j : Int} {P : Int → Int → Prop} (h : P i j) : ∃ a b, [V.int i, V.int j] = [.int a, .int b] ∧ P a b := ⟨i, j, rfl, h⟩

/-! ### comprehensions over a name: P by the turn, what is made so far, the heap -/
section
variable {σ : L2.St} {H1 : Hp} {D : Addr} {Qd : Hp → Prop} {te : TE} {vs : List Nat} {j : Nat} {K : PySem.W.Frag}
/-- what a for's walk asks -/
def ForG (J : It) (g : TG) (tb : TS) (D : Ends) (σ : L2.St) (H1 : Hp) : Prop :=
  ∃ W : Nat → Nat → L2.St → Hp → Prop, (∃ m, W 0 m σ H1) ∧
    ∀ i m σ H, W i m σ H → (J.stop i H ∧ D.nx σ H) ∨
      (J.go i H ∧ ∃ N : L2.St → Hp → Prop, (∀ σ' H', N σ' H' → ∃ m', m' < m ∧ W (i + 1) m' σ' H') ∧
        ∀ x H', J.yld i H x H' → g x σ H' fun σ2 H2 => tb ⟨N, D.rt, D.nx, N⟩ σ2 H2)
theorem for_ {wi : TI} {g : TG} {tb : TS} {D : Ends} {H : Hp} (h : wi σ H fun J H1 => ForG J g tb D σ H1) : tFor wi g tb D σ H := h
/-- what a comprehension's walk asks: W by the turn and a measure -/
def LcG (J : It) (g : TG) (tt : TT) (te : TE) (vs : List Nat) (σ : L2.St) (D : Addr) (H1 : Hp) (Qd : Hp → Prop) : Prop :=
  ∃ W : Nat → Nat → Hp → Prop, (∃ m, W 0 m (upd H1 D (.lst []))) ∧
    ∀ i m H, W i m H → (J.stop i H ∧ Qd H) ∨
      (J.go i H ∧ ∃ Nx : Hp → Prop, (∀ H', Nx H' → ∃ m', m' < m ∧ W (i + 1) m' H') ∧
        ∀ x H', J.yld i H x H' → g x (wipe σ vs) H' fun σ2 H2 =>
          wipe σ2 vs = wipe σ vs ∧ tt σ2 H2 fun b H3 => if b = true
            then te σ2 H3 fun y H4 => ∃ acc, H4 D = some (.lst acc) ∧
              acc.length < sizeLine ∧ Nx (upd H4 D (.lst (acc ++ [y])))
            else Nx H3)
theorem lc_ {wi : TI} {g : TG} {tt : TT} {Q : VK} {H : Hp} (h : wi σ H fun J H1 => ∀ D, H1 D = none → LcG J g tt te vs σ D H1 fun H2 => Q (.ref D) H2) : tLc wi g tt te vs σ H Q := h
def Lw (P : Nat → List V → Hp → Prop) (n : Nat) (D : Addr) (i : Nat) (H : Hp) : Prop := ∃ ys : List V, ys.length = i ∧ i ≤ n ∧ P i ys H ∧ H D = some (.lst ys)
def LcK (P : Nat → List V → Hp → Prop) (n : Nat) (D : Addr) (i : Nat) : VK := fun y H4 => ∃ acc, H4 D = some (.lst acc) ∧ acc.length < sizeLine ∧ Lw P n D (i + 1) (upd H4 D (.lst (acc ++ [y])))
theorem lcK_ {P : Nat → List V → Hp → Prop} {n : Nat} {D : Addr} {i : Nat} {ys : List V} {y : V} {H4 : Hp} (hD : H4 D = some (.lst ys)) (hl : ys.length = i) (hi : i < n) (hn : n ≤ 100000) (h : P (i + 1) (ys ++ [y]) (upd H4 D (.lst (ys ++ [y])))) : LcK P n D i y H4 :=
  ⟨ys, hD, Nat.lt_of_lt_of_le (show ys.length < 100000 by omega) (by decide), ys ++ [y], by rw [List.length_append, hl]; rfl, hi, h, upd_same⟩
theorem lcR {lo : Int} {n : Nat} (P : Nat → List V → Hp → Prop) (hw : ∀ x, wipe ((wipe σ vs).set j (some x)) vs = wipe σ vs) (h0 : P 0 [] (upd H1 D (.lst [])))
    (hs : ∀ i ys H, i < n → ys.length = i → P i ys H → H D = some (.lst ys) → te ((wipe σ vs).set j (some (.int (lo + (i : Int))))) H (LcK P n D i))
    (hd : ∀ ys H, ys.length = n → P n ys H → H D = some (.lst ys) → Qd H) :
    LcG (Itr lo n) (gName j) tYes te vs σ D H1 Qd := by
  refine lc_range (Lw P n D) ⟨[], rfl, Nat.zero_le _, h0, upd_same⟩ (fun i H hi p => ?_) fun H p => ?_
  · obtain ⟨ys, hl, _, hp, hD⟩ := p
    refine ⟨hw _, ?_⟩
    unfold tYes
    dsimp only
    rw [if_pos rfl]
    exact hs i ys H hi hl hp hD
  · obtain ⟨ys, hl, _, hp, hD⟩ := p
    exact hd ys H hl hp hD
theorem lcT {a : Addr} {xs : List V} (P : Nat → List V → Hp → Prop) (hw : ∀ x, wipe ((wipe σ vs).set j (some x)) vs = wipe σ vs) (h0 : P 0 [] (upd H1 D (.lst [])))
    (ht : ∀ i ys H, P i ys H → SqT K H a xs)
    (hs : ∀ i x ys H, xs[i]? = some x → i < xs.length → ys.length = i → P i ys H → H D = some (.lst ys) → te ((wipe σ vs).set j (some x)) H (LcK P xs.length D i))
    (hd : ∀ ys H, ys.length = xs.length → P xs.length ys H → H D = some (.lst ys) → Qd H) :
    LcG (Itt K a) (gName j) tYes te vs σ D H1 Qd := by
  refine lc_tup (xs := xs) (Lw P xs.length D) ⟨[], rfl, Nat.zero_le _, h0, upd_same⟩ (fun i H _ p => ?_) (fun i x H hx p => ?_) fun H p => ?_
  · obtain ⟨ys, _, _, hp, _⟩ := p
    exact ht i ys H hp
  · obtain ⟨ys, hl, _, hp, hD⟩ := p
    refine ⟨hw _, ?_⟩
    unfold tYes
    dsimp only
    rw [if_pos rfl]
    exact hs i x ys H hx (List.getElem?_eq_some_iff.mp hx).1 hl hp hD
  · obtain ⟨ys, hl, _, hp, hD⟩ := p
    exact hd ys H hl hp hD
theorem lcL {a : Addr} {xs : List V} (P : Nat → List V → Hp → Prop) (hw : ∀ x, wipe ((wipe σ vs).set j (some x)) vs = wipe σ vs) (h0 : P 0 [] (upd H1 D (.lst [])))
    (ht : ∀ i ys H, P i ys H → SqL K H a xs)
    (hs : ∀ i x ys H, xs[i]? = some x → i < xs.length → ys.length = i → P i ys H → H D = some (.lst ys) → te ((wipe σ vs).set j (some x)) H (LcK P xs.length D i))
    (hd : ∀ ys H, ys.length = xs.length → P xs.length ys H → H D = some (.lst ys) → Qd H) :
    LcG (Itl K a) (gName j) tYes te vs σ D H1 Qd := by
  refine lc_list (xs := xs) (Lw P xs.length D) ⟨[], rfl, Nat.zero_le _, h0, upd_same⟩ (fun i H _ p => ?_) (fun i x H hx p => ?_) fun H p => ?_
  · obtain ⟨ys, _, _, hp, _⟩ := p
    exact ht i ys H hp
  · obtain ⟨ys, hl, _, hp, hD⟩ := p
    refine ⟨hw _, ?_⟩
    unfold tYes
    dsimp only
    rw [if_pos rfl]
    exact hs i x ys H hx (List.getElem?_eq_some_iff.mp hx).1 hl hp hD
  · obtain ⟨ys, hl, _, hp, hD⟩ := p
    exact hd ys H hl hp hD
/-- a loop over a tuple that stands still, turn by turn -/
theorem unrT {a : Addr} {xs : List V} {g : TG} {tb : TS} {nx bk ct : L2.St → Hp → Prop} {rt : VK} {H : Hp} (h : UnrT K a xs g tb nx rt xs σ H) :
    ForG (Itt K a) g tb ⟨nx, rt, bk, ct⟩ σ H := by
  refine for_tup (D := ⟨nx, rt, bk, ct⟩) (xs := xs) (fun i σ H => UnrT K a xs g tb nx rt (xs.drop i) σ H) h (fun i σ H hi p => ?_) (fun i x σ H hx p => ?_) fun σ H p => ?_
  · cases e : xs.drop i with
    | nil => rw [e] at p; exact p.1
    | cons y ys => rw [e] at p; exact p.1
  · have hi : i < xs.length := (List.getElem?_eq_some_iff.mp hx).1
    have e : xs.drop i = x :: xs.drop (i + 1) := by
      rw [List.drop_eq_getElem_cons hi]
      have := (List.getElem?_eq_some_iff.mp hx).2
      rw [this]
    rw [e] at p
    exact p.2
  · rw [List.drop_length] at p
    exact p.2
end
/-! ### comprehensions whose elements change nothing: f of each item -/
theorem same_upd {H H' : Hp} {D : Addr} {o : HO} (e : Same H H') (h : H D = none) : Same H (upd H' D o) := fun b x hb => by
  rw [upd_ne (ne_of_none hb h)]; exact e b x hb
theorem same_new {H : Hp} {p : Addr} {o : HO} (h : H p = none) : Same H (upd H p o) := same_upd (Same.refl H) h
theorem same_sqt {K : PySem.W.Frag} {H H' : Hp} {a : Addr} {xs : List V} (e : Same H H') (h : SqT K H a xs) : SqT K H' a xs := by
  rcases h with (h | ⟨o, h⟩) | h
  · exact .inl (.inl (e _ _ h))
  · exact .inl (.inr ⟨o, e _ _ h⟩)
  · exact .inr h
section
variable {σ : L2.St} {H1 : Hp} {D : Addr} {Qd : Hp → Prop} {te : TE} {vs : List Nat} {j : Nat} {K : PySem.W.Frag}
theorem lcTp {a : Addr} {xs : List V} (f : V → V) (hT : SqT K H1 a xs) (hn : H1 D = none) (hl : Nat.ble xs.length 100000 = true) (hw : ∀ x, wipe ((wipe σ vs).set j (some x)) vs = wipe σ vs)
    (hs : ∀ (i : Nat) (x : V) (H' : Hp) (R : VK), xs[i]? = some x → Same H1 H' → (∀ H4, Same H' H4 → R (f x) H4) → te ((wipe σ vs).set j (some x)) H' R)
    (hd : ∀ H', Same H1 H' → H' D = some (.lst (xs.map f)) → Qd H') :
    LcG (Itt K a) (gName j) tYes te vs σ D H1 Qd := by
  refine lcT (xs := xs) (fun i ys H' => ys = (xs.take i).map f ∧ Same H1 H') hw ⟨rfl, same_new hn⟩ (fun i ys H' p => same_sqt p.2 hT) (fun i x ys H' hx hi hy p hD => ?_) fun ys H' hy p hD => ?_
  · refine hs i x H' _ hx p.2 fun H4 e4 => lcK_ (e4 _ _ hD) hy hi (Nat.le_of_ble_eq_true hl) ⟨?_, same_upd (p.2.trans e4) hn⟩
    rw [p.1, List.take_add_one, hx, List.map_append]; rfl
  · refine hd H' p.2 ?_
    rw [hD, p.1, List.take_length]
theorem lcLp {a : Addr} {xs : List V} (f : V → V) (hT : SqL K H1 a xs) (hn : H1 D = none) (hl : Nat.ble xs.length 100000 = true) (hw : ∀ x, wipe ((wipe σ vs).set j (some x)) vs = wipe σ vs)
    (hs : ∀ (i : Nat) (x : V) (H' : Hp) (R : VK), xs[i]? = some x → Same H1 H' → (∀ H4, Same H' H4 → R (f x) H4) → te ((wipe σ vs).set j (some x)) H' R)
    (hd : ∀ H', Same H1 H' → H' D = some (.lst (xs.map f)) → Qd H') :
    LcG (Itl K a) (gName j) tYes te vs σ D H1 Qd := by
  refine lcL (xs := xs) (fun i ys H' => ys = (xs.take i).map f ∧ Same H1 H') hw ⟨rfl, same_new hn⟩ (fun i ys H' p => p.2.seq hT) (fun i x ys H' hx hi hy p hD => ?_) fun ys H' hy p hD => ?_
  · refine hs i x H' _ hx p.2 fun H4 e4 => lcK_ (e4 _ _ hD) hy hi (Nat.le_of_ble_eq_true hl) ⟨?_, same_upd (p.2.trans e4) hn⟩
    rw [p.1, List.take_add_one, hx, List.map_append]; rfl
  · refine hd H' p.2 ?_
    rw [hD, p.1, List.take_length]
end
/-! ### one object may change -/
def Kept (a : Addr) (H H' : Hp) : Prop := ∀ b o, b ≠ a → H b = some o → H' b = some o
theorem Kept.refl (a : Addr) (H : Hp) : Kept a H H := fun _ _ _ h => h
theorem Kept.trans {a : Addr} {H H1 H2 : Hp} (x : Kept a H H1) (y : Kept a H1 H2) : Kept a H H2 := fun b o n h => y b o n (x b o n h)
theorem kept_same {a : Addr} {H H' : Hp} (e : Same H H') : Kept a H H' := fun b o _ h => e b o h
theorem kept_upd {a : Addr} {H H' : Hp} {o : HO} (x : Kept a H H') : Kept a H (upd H' a o) := fun b u n h => by rw [upd_ne n]; exact x b u n h
theorem kept_new {a D : Addr} {H H' : Hp} {o : HO} (x : Kept a H H') (h : H' D = none) : Kept a H (upd H' D o) := fun b u n hb => by rw [upd_ne (ne_of_none (x b u n hb) h)]; exact x b u n hb
theorem kept_sql {a : Addr} {K : PySem.W.Frag} {H H' : Hp} {c : Addr} {xs : List V} (x : Kept a H H') (n : c ≠ a) (h : SqL K H c xs) : SqL K H' c xs := by
  rcases h with (h | ⟨o, h⟩) | h
  · exact .inl (.inl (x _ _ n h))
  · exact .inl (.inr ⟨o, x _ _ n h⟩)
  · exact .inr h
theorem kept_sqt {a : Addr} {K : PySem.W.Frag} {H H' : Hp} {c : Addr} {xs : List V} (x : Kept a H H') (n : c ≠ a) (h : SqT K H c xs) : SqT K H' c xs := by
  rcases h with (h | ⟨o, h⟩) | h
  · exact .inl (.inl (x _ _ n h))
  · exact .inl (.inr ⟨o, x _ _ n h⟩)
  · exact .inr h

/-! ### the reel of a law: cells, how many were begun, what is left of a great one -/
structure Hat (H : Hp) (a c : Addr) (ns : List Int) (n : Nat) : Prop where
  ex : ∃ t r : Int, H a = some (.lst [.ref c, .int t, .int r]) ∧ 0 ≤ t ∧ t ≤ n
  ne : c ≠ a
  cs : H c = some (.lst (ns.map V.int))
  le : ns.length ≤ 63
theorem Hat.at {H : Hp} {a c : Addr} {ns : List Int} {n : Nat} (h : Hat H a c ns n) : ∃ o, H a = Option.some o := by
  obtain ⟨t, r, e, _⟩ := h.ex
  exact ⟨_, e⟩
theorem Hat.na {H : Hp} {a c p : Addr} {ns : List Int} {n : Nat} (h : Hat H a c ns n) (hp : H p = none) : p ≠ a := by
  obtain ⟨o, e⟩ := h.at
  exact (ne_of_none e hp).symm
theorem Hat.nc {H : Hp} {a c p : Addr} {ns : List Int} {n : Nat} (h : Hat H a c ns n) (hp : H p = none) : p ≠ c := (ne_of_none h.cs hp).symm
theorem Hat.same {H H' : Hp} {a c : Addr} {ns : List Int} {n : Nat} (h : Hat H a c ns n) (e : Same H H') : Hat H' a c ns n := by
  obtain ⟨⟨t, r, h, h0⟩, h1, h2, h3⟩ := h
  exact ⟨⟨t, r, e _ _ h, h0⟩, h1, e _ _ h2, h3⟩
theorem Hat.mono {H : Hp} {a c : Addr} {ns : List Int} {n m : Nat} (h : Hat H a c ns n) (e : n ≤ m) : Hat H a c ns m := by
  obtain ⟨⟨t, r, h, h0, h4⟩, h1, h2, h3⟩ := h
  exact ⟨⟨t, r, h, h0, by omega⟩, h1, h2, h3⟩
theorem Hat.upd {H : Hp} {a c D : Addr} {ns : List Int} {n : Nat} {o : HO} (h : Hat H a c ns n) (hD : D ≠ a) (hc : D ≠ c) : Hat (L2.upd H D o) a c ns n := by
  obtain ⟨⟨t, r, h, h0⟩, h1, h2, h3⟩ := h
  exact ⟨⟨t, r, by rw [upd_ne hD.symm]; exact h, h0⟩, h1, by rw [upd_ne hc.symm]; exact h2, h3⟩
theorem Hat.new {H : Hp} {a c D : Addr} {ns : List Int} {n : Nat} {o : HO} (h : Hat H a c ns n) (hD : H D = none) : Hat (L2.upd H D o) a c ns n := h.upd (h.na hD) (h.nc hD)
theorem kept_at {a D : Addr} {H H' : Hp} {o : HO} (x : Kept a H H') (h : H D = none) : Kept a H (L2.upd H' D o) := fun b u n hb => by rw [upd_ne (ne_of_none hb h)]; exact x b u n hb
/-- a comprehension over a range whose elements draw: dn draws a turn at most, R of what is made so far -/
theorem lcRd {σ : L2.St} {H1 : Hp} {D : Addr} {Qd : Hp → Prop} {te : TE} {vs : List Nat} {j : Nat} {a c : Addr} {ns : List Int} {n dn k : Nat} {lo : Int} (R : Nat → List V → Prop)
    (hh : Hat H1 a c ns n) (hD : H1 D = none) (hk : k ≤ 100000) (hw : ∀ x, wipe ((wipe σ vs).set j (some x)) vs = wipe σ vs) (h0 : R 0 [])
    (hs : ∀ (i : Nat) (ys : List V) (H' : Hp) (Q : VK), i < k → ys.length = i → R i ys → Kept a H1 H' → Hat H' a c ns (n + dn * i) → (∀ y H4, Kept a H' H4 → Hat H4 a c ns (n + dn * (i + 1)) → R (i + 1) (ys ++ [y]) → Q y H4) → te ((wipe σ vs).set j (some (.int (lo + (i : Int))))) H' Q)
    (hd : ∀ (ys : List V) (H' : Hp), ys.length = k → R k ys → Kept a H1 H' → Hat H' a c ns (n + dn * k) → H' D = some (.lst ys) → Qd H') :
    LcG (Itr lo k) (gName j) tYes te vs σ D H1 Qd := by
  have da := hh.na hD
  have dc := hh.nc hD
  refine lcR (fun i ys H' => R i ys ∧ Kept a H1 H' ∧ Hat H' a c ns (n + dn * i)) hw ⟨h0, kept_at (Kept.refl _ _) hD, hh.new hD⟩ (fun i ys H' hi hy p hDy => ?_) fun ys H' hy p hDy => ?_
  · exact hs i ys H' _ hi hy p.1 p.2.1 p.2.2 fun y H4 k4 h4 r4 => lcK_ (k4 _ _ da hDy) hy hi hk ⟨r4, kept_at (p.2.1.trans k4) hD, h4.upd da dc⟩
  · exact hd ys H' hy p.1 p.2.1 p.2.2 hDy
theorem lcTd {K : PySem.W.Frag} {σ : L2.St} {H1 : Hp} {D : Addr} {Qd : Hp → Prop} {te : TE} {vs : List Nat} {j : Nat} {a c b : Addr} {ns : List Int} {n dn : Nat} {xs : List V} (R : Nat → List V → Prop) (hT : SqT K H1 b xs) (hb : b ≠ a)
    (hh : Hat H1 a c ns n) (hD : H1 D = none) (hk : xs.length ≤ 100000) (hw : ∀ x, wipe ((wipe σ vs).set j (some x)) vs = wipe σ vs) (h0 : R 0 [])
    (hs : ∀ (i : Nat) (x : V) (ys : List V) (H' : Hp) (Q : VK), xs[i]? = some x → ys.length = i → R i ys → Kept a H1 H' → Hat H' a c ns (n + dn * i) → (∀ y H4, Kept a H' H4 → Hat H4 a c ns (n + dn * (i + 1)) → R (i + 1) (ys ++ [y]) → Q y H4) → te ((wipe σ vs).set j (some x)) H' Q)
    (hd : ∀ (ys : List V) (H' : Hp), ys.length = xs.length → R xs.length ys → Kept a H1 H' → Hat H' a c ns (n + dn * xs.length) → H' D = some (.lst ys) → Qd H') :
    LcG (Itt K b) (gName j) tYes te vs σ D H1 Qd := by
  have da := hh.na hD
  have dc := hh.nc hD
  refine lcT (xs := xs) (fun i ys H' => R i ys ∧ Kept a H1 H' ∧ Hat H' a c ns (n + dn * i)) hw ⟨h0, kept_at (Kept.refl _ _) hD, hh.new hD⟩ (fun i ys H' p => kept_sqt p.2.1 hb hT) (fun i x ys H' hx hi hy p hDy => ?_) fun ys H' hy p hDy => ?_
  · exact hs i x ys H' _ hx hy p.1 p.2.1 p.2.2 fun y H4 k4 h4 r4 => lcK_ (k4 _ _ da hDy) hy hi hk ⟨r4, kept_at (p.2.1.trans k4) hD, h4.upd da dc⟩
  · exact hd ys H' hy p.1 p.2.1 p.2.2 hDy
theorem at_int {ns : List Int} {z : Int} (h0 : 0 ≤ z) (h1 : z < ns.length) : ∃ v, atI (ns.map V.int) z = some (.int v) := by
  obtain ⟨k, rfl⟩ := Int.eq_ofNat_of_zero_le h0
  have hk : k < ns.length := by omega
  exact ⟨ns[k], atI_nat (by rw [List.getElem?_map, List.getElem?_eq_getElem hk]; rfl)⟩
theorem at_some {xs : List V} {z : Int} (h0 : 0 ≤ z) (h1 : z < xs.length) : ∃ v, atI xs z = some v ∧ v ∈ xs := by
  obtain ⟨k, rfl⟩ := Int.eq_ofNat_of_zero_le h0
  have hk : k < xs.length := by omega
  exact ⟨xs[k], atI_nat (List.getElem?_eq_getElem hk), List.getElem_mem hk⟩
theorem cut_to (xs : List V) (k : Nat) : cutV xs none (some (k : Int)) = xs.take k := by
  unfold cutV
  rw [HT.sIx_none, HT.sIx_nat, List.drop_zero, Nat.sub_zero]
  by_cases h : k ≤ xs.length
  · rw [Nat.min_eq_left h]
  · rw [Nat.min_eq_right (by omega), List.take_of_length_le (Nat.le_refl _), List.take_of_length_le (by omega)]
/-- xs != [] of ints -/
theorem ne_nil_ {K : PySem.W.Frag} {H : Hp} {Q : VK} {c e : Addr} {ns : List Int} (hc : SqL K H c (ns.map V.int)) (he : SqL K H e []) (h : Q (.bl (!ns.isEmpty)) H) : rNeU K (.ref c) (.ref e) H Q := by
  have dp : ∀ ns : List Int, DpAll K H (ns.map V.int) (ns.map PyData.int) := fun ns => by
    induction ns with
    | nil => exact .nil
    | cons n r ih => exact .cons (.int n) ih
  refine .inr ⟨.list (ns.map PyData.int), .list [], .lst hc (dp ns), .lst he .nil, PySem.W.shaped_ints ns, PySem.W.shaped_ints [], ?_⟩
  have e2 : PyData.eqv (.list (ns.map PyData.int)) (.list []) = ns.isEmpty := by
    cases ns with
    | nil => simp [PyData.eqv, PyData.eqvAll]
    | cons n r => simp [PyData.eqv, PyData.eqvAll]
  rw [e2]; exact h
end HX
/-! super().__init__(..) as the first statement of an own class's __init__ -/
namespace HS
open PySem PySem.Spec PyProof.Rows L2 NdefX StX ClX
/-- what stands of a def that closes over __class__, cell cc, class D; its code object at cda -/
structure SupDef (P : Program) (K : PySem.W.Frag) (mg : Str → Option Value) (F : NF) (f D cc : Addr) : Prop where
  lk : ∃ (oc : Value) (od : Option Addr) (dV kV doc pm ct : Value) (an : Option Addr) (osl : Array (Option Value)), K.lookup f = some ⟨oc, od, .func (PySem.W.fnX F.name F.qual F.params F.body F.scope F.cl dV kV doc pm an (.ref F.c) ct), osl⟩ ∧
    (∀ us : List Value, us.length = (F.params.args.map (·.arg)).length → bindArgs (PySem.W.fnX F.name F.qual F.params F.body F.scope F.cl dV kV doc pm an (.ref F.c) ct) ⟨us, []⟩ = pure ((F.params.args.map (·.arg)).zip us)) ∧
    ∀ us : List Value, us.length = (F.params.args.map (·.arg)).length → bindArgs (PySem.W.fnX F.name F.qual F.params F.body F.scope F.cl dV kV doc pm an (.ref F.c) ct) ⟨us.take 1, (F.params.args.map (·.arg)).tail.zip us.tail⟩ = pure ((F.params.args.map (·.arg)).zip us)
  cd : PySem.W.codeIn K (.ref F.c) F.qual = true
  cl : F.cl = [(("__class__" : Str), cc)]
  code : ∃ (ccl : Value) (cdd : Option Addr) (vs : Array Value) (ccs : Array (Option Value)) (file : Str) (tf : Tok), K.lookup F.c = some ⟨ccl, cdd, .fields vs, ccs⟩ ∧ vs[2]? = some (.str file tf) ∧ ((P.main.file : Str) == file) = true
  cell : ∃ (ccl : Value) (cdd : Option Addr) (ccs : Array (Option Value)), K.lookup cc = some ⟨ccl, cdd, .cell (some (.ref D)), ccs⟩
  isD : ∃ cdD, PySem.W.clsIn K D = some cdD
  sup : mg "super" = none
  top : (P.main.scope.names.lookup ("super" : Str)).isSome = false
/-- what a class C must have that super() of D finds the def at g -/
structure SupCls (K : PySem.W.Frag) (C D : Addr) (m : Str) (g : Addr) : Prop where
  hm : PySem.W.ks_superIn K C D m = some (some (.ref g))
  ty : PySem.W.typeIn K (.ref g) = some (.type "function")
  fi : PySem.W.fnIn K g = true
  sub : PySem.W.mroIn K C (.ref D) = some true
  op : PySem.W.nsIn K cStatics "thirdparty.any" = some none

section
variable {P : Program} {w : World} {K : PySem.W.Frag} {mg : Str → Option Value} {base : Heap} {k : Nat} {F : NF} {f D cc : Addr} {ps N : List Str} {sp : Sp}
def argsB (ps : List Str) : Bool → List Value → Args
  | false, us => ⟨us, []⟩
  | true, us => ⟨us.take 1, ps.tail.zip us.tail⟩
def FnB (P : Program) (w : World) (K : PySem.W.Frag) (mg : Str → Option Value) (base : Heap) (CX : CXT) (k : Nat) (f : Addr) (ps : List Str) (kw : Bool) (sp : Sp) : Prop :=
  ∀ (A : Around) (outer : List Env) (s : Shared) (H : Hp) (us : List Value) (vs : List V) (Q : VK) (E : XK), Room k A → Env0 P w K mg base A outer s H → Vals vs us → sp vs H Q E →
    codeAny (model P w) A (.call (.ref f) (argsB ps kw us)) (CR CX outer P w H s Q E) s
theorem fn_superB (kw : Bool) {e : Expr} {es : List Expr} {rest : List Stmt} {p0 p1 apos cpos spos : Pos} {pl : Sem Bool} (SD : SupDef P K mg F f D cc)
    (hbody : F.body = .Expr (.Call (.Attribute (.Call (.Name "super" p0) [] [] p1) "__init__" apos) (e :: es) [] cpos) spos :: rest)
    (S : NScope N ps [("__class__" : Str)] F.scope) (hps : F.params.args.map (·.arg) = ps) (hpo : F.params.posonlyargs = []) (hself : ps.head? = some ("self" : Str)) (hN0 : N[0]? = some ("self" : Str)) (hks : F.scope.names.lookup ("super" : Str) = some .globalImplicit)
    (hst : ∀ env, starEach (e :: es) env = (false, eval e env) :: starEach es env) (hpl : ∀ env, (backTo cpos (starEach es env)).any (·.1) = false)
    (hi : ∀ L, interactive (envF F f L) = false) (hsw : ∀ L, swapsWith (.Call (.Attribute (.Call (.Name "super" p0) [] [] p1) "__init__" apos) (e :: es) [] cpos) none spos.line (envF F f L) = pure false)
    (he : ∀ L, eval (.Call (.Attribute (.Call (.Name "super" p0) [] [] p1) "__init__" apos) (e :: es) [] cpos) (envF F f L) = (do
      let ov ← attributeBase (.Call (.Name "super" p0) [] [] p1) "__init__" (envF F f L) (eval (.Call (.Name "super" p0) [] [] p1) (envF F f L))
      standAt apos.atName
      let (f', first) ← holding [ov] (getMethod ov "__init__" pl)
      callWith cpos f' first (backTo cpos (starEach (e :: es) (envF F f L))) []))
    (len : ∀ vs H Q E, sp vs H Q E → vs.length = ps.length)
    (h : ∀ (A : Around) (outer : List Env) (s : Shared) (H : Hp) (vs : List V) (Q : VK) (E : XK), Room k (A.deeper (envF F f s.heap.objs.size)) → sp vs H Q E →
      ∃ (x C dx g : Addr) (fs : List (Str × V)) (vr : List V) (ta : TA) (tr : TS) (spB : Sp), vs = .ref x :: vr ∧ H x = some (.ins C dx fs) ∧ SupCls K C D "__init__" g ∧ FnR P w K mg base CX0 k g spB ∧
        PA (ncx CX0 P w K mg base N F f A outer s H E)  (e :: es) ta ∧ PSs (ncx CX0 P w K mg base N F f A outer s H E)  rest tr ∧
        ta (startF N vs [none]) H fun ws H1 => spB (.ref x :: ws) H1 (fun _ H2 => tr { nx := fun _ H' => Q .non H', rt := Q } (startF N vs [none]) H2) E0) :
    FnB P w K mg base CX0 (k + 1) f ps kw sp := by
  intro A outer s H us vs Q E hr e0 r hsp
  have hl := len _ _ _ _ hsp
  obtain ⟨oc, od, dV, kV, doc, pm, ct, an, osl, lk, hb, hbk⟩ := SD.lk
  have KX : K.In s.heap := e0.mod.kin.keeps fun b o e => (e0.bs b o e).1
  have lim : s.heap.NoLimit := e0.mod.nolimit.keeps fun b o e => (e0.bs b o e).1
  have hul : us.length = ps.length := by rw [← r.length]; exact hl
  have hbind : BindsTo s (PySem.W.fnX F.name F.qual F.params F.body F.scope F.cl dV kV doc pm an (.ref F.c) ct) (argsB ps kw us) (ps.zip us) := by
    cases kw with
    | false =>
      have z := hb us (by rw [hps]; exact hul)
      rw [hps] at z
      exact .of_eq z
    | true =>
      have z := hbk us (by rw [hps]; exact hul)
      rw [hps] at z
      exact .of_eq z
  obtain ⟨x, C, dx, g, fs, vr, ta, tr, spB, rfl, hx, SC, G, hta, htr, hgo⟩ := h A outer s H vs Q E (hr.deeper _) hsp
  obtain ⟨ccl, cdd, cvs, ccs, file, tf, hcode, hvs, hfile⟩ := SD.code
  obtain ⟨cl1, cl2, cl3, hcell⟩ := SD.cell
  obtain ⟨cdD, hD⟩ := SD.isD
  have hcl := SD.cl
  have hccH : H cc = none := (e0.bs cc _ (e0.mod.kin _ _ hcell)).2
  have CA : CellsAt F.cl [("__class__" : Str)] [none] s.heap H := by
    rw [hcl]
    refine ⟨rfl, fun y c e => ?_, fun y z c e1 e2 => ?_, fun i y e => ?_⟩
    · have e' := PySem.mem_of_lookup e
      rw [List.mem_singleton] at e'
      cases e'
      exact ⟨hccH, _, _, KX _ _ hcell, rfl⟩
    · have a1 := PySem.mem_of_lookup e1
      have a2 := PySem.mem_of_lookup e2
      rw [List.mem_singleton] at a1 a2
      cases a1
      cases a2
      rfl
    · match i, e with
      | 0, e =>
        cases e
        exact ⟨cc, rfl, fun v z => by cases z⟩
  refine PySem.ks_codeAny_call_defAt (fd := PySem.W.fnX F.name F.qual F.params F.body F.scope F.cl dV kV doc pm an (.ref F.c) ct) (body := F.body) (binds := ps.zip us) hr.depth (KX _ _ lk) rfl lim (PySem.W.codeRec_of KX SD.cd) rfl hbind S.nocell (fun y hy => S.par y.1 (List.of_mem_zip (a := y.1) (b := y.2) hy).1) (fun h₁ hns hk₁ => ?_) S.co S.gen S.kind
  have I : Inv (ncx CX0 P w K mg base N F f A outer s H E) [] (startF N (.ref x :: vr) [none]) H { s with heap := h₁, toks := s.toks + (ps.zip us).length } := inv_startN S hr.hd e0 hl r CA hns hk₁
  have KX1 := I.kIn
  show _root_.PySem.wpAt (model P w) (A.deeper (envF F f s.heap.objs.size)) (.func F.body (envF F f s.heap.objs.size)) (execs F.body (envF F f s.heap.objs.size)) _ _ _
  rw [hbody]
  refine PySem.ks_wpAt_execs_cons (PySem.ks_wpAt_Expr_any (PySem.ks_wpAt_MethodCall (pl := pl) ?_ (he _)) (hi _) (hsw _))
  have hxI : ∃ ox, h₁.get? x = some ox ∧ ox.cls = .ref C ∧ ∀ c, ox.data ≠ .cls c := by
    obtain ⟨_, _, _, e1, _⟩ := (show ObjOk P w H h₁ x (.ins C dx fs) from I.hok x _ hx)
    exact ⟨_, e1, rfl, fun c z => nomatch z⟩
  obtain ⟨ox, hx1, hx2, hx3⟩ := hxI
  obtain ⟨oD, hD1, hD2⟩ : ∃ oD, h₁.get? D = some oD ∧ oD.data = .cls cdD := by
    unfold PySem.W.clsIn at hD
    split at hD
    · rename_i c d cd' sl ho
      cases hD
      exact ⟨_, KX1 _ _ ho, rfl⟩
    · cases hD
  obtain ⟨m, hnm, hlk⟩ := I.loc
  obtain ⟨mb, hb1, hb2⟩ := I.mod.blt
  cases hps0 : F.params.args with
  | nil => rw [hps0] at hps; rw [← hps] at hself; cases hself
  | cons ar ars =>
  have har : ar.arg = ("self" : Str) := by
    rw [← hps, hps0] at hself
    exact Option.some.inj hself
  have hselfM : m "self" = some (.ref x) := by
    obtain ⟨u, ru, lo⟩ := hlk 0 "self" (.ref x) hN0 rfl (.inl (S.par _ (by rw [← hps, hps0, List.map_cons, har]; exact List.mem_cons_self)))
    have ru' : u = Value.ref x := ru
    subst ru'
    rcases lo with ⟨_, z⟩ | ⟨z, _⟩
    · exact z
    · have z' := S.par ("self" : Str) (by rw [← hps, hps0, List.map_cons, har]; exact List.mem_cons_self)
      have z2 : F.scope.names.lookup ("self" : Str) = some .cell ∨ F.scope.names.lookup ("self" : Str) = some .free := z
      rw [z'] at z2
      rcases z2 with z2 | z2 <;> cases z2
  refine PySem.ks_wpAt_super_base (env := envF F f s.heap.objs.size) (ar := ar) hks (S.frk _ (List.mem_singleton.mpr rfl)) (by decide) rfl (KX1 _ _ lk) rfl (by show (F.params.posonlyargs ++ F.params.args).head? = some ar; rw [hpo, hps0]; rfl) rfl (KX1 _ _ hcode) rfl hvs hfile SD.top ?_
  refine PySem.W.ks_loadName_global S.kind hks (PySem.Calls.loadGlobal_builtin (I.mod.glob.keeps I.bk) SD.sup (hb1.keeps I.bk) ((hb2 "super" (by decide)).trans (by decide +kernel : bootBuiltins "super" = some (.type "super"))) ⟨rfl, ?_⟩)
  refine wpAny_loadName_free S.kind (S.frk _ (List.mem_singleton.mpr rfl)) (by show List.lookup ("__class__" : Str) F.cl = some cc; rw [hcl]; rfl) ⟨_, KX1 _ _ hcell, rfl⟩ ?_
  refine wpAny_loadName_local S.kind (S.par _ (by rw [← hps, hps0]; exact List.mem_cons_self)) hnm (by rw [har]; exact hselfM) ?_
  refine PySem.ks_wpAny_isType_cls hD1 hD2 ⟨rfl, ?_⟩
  refine PySem.ks_wpAny_call_super hD1 hD2 hx1 hx2 hx3 (PySem.W.looks_mroIn KX1 SC.sub) (fun h2 e2 k2 => ?_)
  have I2 : Inv (ncx CX0 P w K mg base N F f A outer s H E) [(h₁.objs.size, PySem.W.ks_superObj D x C)] (startF N (.ref x :: vr) [none]) H { s with heap := h2, toks := s.toks + (ps.zip us).length } := pin_new (s := { s with heap := h₁, toks := s.toks + (ps.zip us).length }) I k2 (Nat.le_refl _) e2 (fun v z => nomatch z)
  have hm := SC.hm
  cases hc : PySem.W.clsIn K C with
  | none => unfold PySem.W.ks_superIn at hm; rw [hc] at hm; cases hm
  | some cd =>
  unfold PySem.W.ks_superIn at hm
  rw [hc] at hm
  obtain ⟨of, hof, hofc⟩ : ∃ of, h2.get? g = some of ∧ of.cls = .type "function" := by
    have ht' : (K.lookup g).map (·.cls) = some (.type "function") := SC.ty
    cases z : K.lookup g with
    | none => rw [z] at ht'; cases ht'
    | some of => rw [z] at ht'; exact ⟨of, I2.kIn _ _ z, Option.some.inj ht'⟩
  have hxC : x ≠ C := by
    rintro rfl
    unfold PySem.W.clsIn at hc
    split at hc
    · rename_i c d cd' sl ho
      have z := (I.bs _ _ (I.mod.kin _ _ ho)).2
      rw [hx] at z
      cases z
    · cases hc
  refine PySem.ks_wpAny_getMethod_super (pin_at I2) (PySem.W.looks_opaque I2.kIn SC.op) (l₀ := cd.mro) (fun A Q E s k q => wpAny_bind ((PySem.W.looks_clsIn I2.kIn hc) A _ E s k (wpAny_pure q))) rfl I2.kIn hm hof hofc hxC (by decide) ?_
  have I3 : Inv (ncx CX0 P w K mg base N F f A outer s H E) [(h2.objs.size, PySem.W.methodObj (.ref g) (.ref x)), (h₁.objs.size, PySem.W.ks_superObj D x C)] (startF N (.ref x :: vr) [none]) H { s with heap := h2.push (PySem.W.methodObj (.ref g) (.ref x)), toks := s.toks + (ps.zip us).length + 1 } :=
    pin_new (s := { s with heap := h2, toks := s.toks + (ps.zip us).length }) I2 (fun _ _ z => Heap.get?_push_of_some _ z) (Nat.le_refl _) (Heap.get?_push_size h2 rfl) (fun v z => nomatch z)
  have hq := pin_at I3
  have hL : h2.objs.size ≠ (ncx CX0 P w K mg base N F f A outer s H E).env.locals := (I3.pin (h2.objs.size, PySem.W.methodObj (.ref g) (.ref x)) (List.mem_append_right _ List.mem_cons_self)).2.2.1
  have hbn : base.get? h2.objs.size = none := base_none I2 (Nat.le_refl _)
  refine PySem.W.callWith_M (K := K) (h₀ := base) (first := []) I3.ok.mod.kin (news_at hL hbn hq) List.mem_cons_self SC.fi ?_ (hst _) (hpl _)
  refine thn (hta.run cpos _ _ _ H _ I3 hgo) fun ws s4 ⟨vs4, H4, I4, r4, q4⟩ => ⟨⟨pin_at I4, I4.kIn⟩, ?_⟩
  have hroom : Room k (ncx CX0 P w K mg base N F f A outer s H E).A := hr.deeper _
  have z := wpAny_call (PySem.W.method_call (pin_at I4) (run_fnR (us := .ref x :: ws) (vs := .ref x :: vs4) G hroom pass0 I4 (.cons rfl r4) q4))
  refine wpAny_mono z (fun u s5 h5 => ?_) (fun e s5 h5 => ?_)
  · obtain ⟨v5, H5, I5, r5, q5⟩ := h5
    refine _root_.PySem.wpAt_of_wpAny ?_
    refine wpAny_mono (htr.run _ s5 _ H5 _ I5 q5) (fun fl s' hs => ?_) fun e s' hs => hs
    have fin : ∀ {σ' : L2.St} {H' : Hp} {v : V} {u : Value} {pn : List (Addr × Obj)}, Inv (ncx CX0 P w K mg base N F f A outer s H E) pn σ' H' s' → RelV v u → Q v H' → CE outer P w H s Q u s' :=
      fun {σ' H' v u pn} J rv q => ⟨v, H', J.os, J.bare, J.base, J.hok, rv, q⟩
    cases fl with
    | ret u =>
      obtain ⟨v, σ', H', J, rv, q⟩ := hs
      exact fin J rv q
    | next =>
      obtain ⟨σ', H', J, q⟩ := hs
      exact fin (v := V.non) (u := Value.none) J rfl q
    | brk =>
      obtain ⟨_, _, _, q⟩ := hs
      exact False.elim q
    | cont =>
      obtain ⟨_, _, _, q⟩ := hs
      exact False.elim q
  · exact h5
end
/-! an own class made by names alone, in the order of the parameters -/
section
variable {X : Cx} {CX : CXT} {k : Nat} {f C : Addr} {ps : List Str} {sp : Sp} {E : XK} {x : Str} {p pos : Pos} {kws : List Keyword} {tk : TA}
theorem run_makeB {pins : List (Addr × Obj)} {σ : L2.St} {H : Hp} {s : Shared} {Q : VK} {us : List Value} {vs : List V} (M : Mk X.K C f) (F : FnB X.prog X.w X.K X.mg X.base CX k f ps true sp) (hr : Room (k + 1) X.A) (hx : Passes CX X E) (I : Inv X pins σ H s) (r : Vals vs us)
    (h : ∀ x dx, H x = Option.none → H dx = Option.none → dx ≠ x → sp (V.ref x :: vs) (upd (upd H dx (.own x)) x (.ins C dx [])) (fun v H2 => v = .non ∧ Q (.ref x) H2) E) :
    wpAny (model X.prog X.w) X.A (call (.ref C) [] (ps.tail.zip us)) (EP X pins σ Q) X.xe s := by
  have hq := h (s.heap.objs.size + 1) s.heap.objs.size (I.hok.fresh (Nat.le_succ _)) (I.hok.fresh (Nat.le_refl _)) (Nat.ne_of_lt (Nat.lt_succ_self _))
  have I2 := Inv.made (C := C) I
  have r2 : Vals (V.ref (s.heap.objs.size + 1) :: vs) (Value.ref (s.heap.objs.size + 1) :: us) := .cons rfl r
  refine wpAny_call (make_map (f := f) I.kIn M.makes M.init (beq_iff_eq.mp M.fn) (codeAny_mono (F _ X.stack _ _ (Value.ref (s.heap.objs.size + 1) :: us) _ _ E (hr.make C [] (ps.tail.zip us)) (I2.env0.make C [] (ps.tail.zip us)) r2 hq) fun r s' hq' => ?_))
  cases r with
  | error e => exact hx pins σ _ _ e s' I2 hq'
  | ok fl =>
    cases fl with
    | ret u =>
      obtain ⟨v, H', I3, rv, ev, q3⟩ := I2.after hq'
      subst ev
      exact ⟨rv, ⟨V.ref (s.heap.objs.size + 1), H', I3, rfl, q3⟩⟩
    | next => exact False.elim hq'
    | brk => exact False.elim hq'
    | cont => exact False.elim hq'
theorem pe_makeB (M : Mk X.K C f) (F : FnB X.prog X.w X.K X.mg X.base CX k f ps true sp) (hr : Room (k + 1) X.A) (hg : Gl X x) (hm : X.mg x = some (.ref C)) (hx : Passes CX X E) (hkw : PK X kws tk)
    (hks : (backToKw pos (keywordEach kws X.env)).filterMap (·.1) = ps.tail := by rfl) (hall : (backToKw pos (keywordEach kws X.env)).all (·.1.isSome) = true := by rfl) (hdb : (x == ("__debug__" : Str)) = false := by decide)
    (hpl : ((backTo pos (starEach [] X.env)).any (·.1) || (backToKw pos (keywordEach kws X.env)).any (·.1.isNone)) = false := by rfl) : PE X (.Call (.Name x p) [] kws pos) (tMakeR C sp E tk) := by
  refine ⟨fun pins s σ H Q I h => ?_⟩
  refine wpAny_Call_Name_kw (ld_glob I hg hm ?_ hdb)
  refine PySem.W.callWith_KW0 (h₀ := X.base) I.ok.mod.kin M.kp hall ?_ hpl
  refine thn (hkw.run pos pins s σ H _ I h) fun ws s2 ⟨zs, H2, I2, rz, q2⟩ => ⟨I2.kIn, ?_⟩
  rw [hks]
  exact run_makeB M F hr hx I2 rz q2
end
end HS
/-! e.__class__, C.__name__, == and != by an own __eq__ with any answer -/
namespace HP
open PySem PySem.Spec PyProof.Rows L2 StX ClX
/-! ### the name of a class -/
structure ClsNm (K : PySem.W.Frag) (C : Addr) (nm : Str) : Prop where
  rd : PySem.W.readsIn K C (.type "type") = true
  at_ : PySem.W.findCls K (.ref C) (.type "type") "__name__" = some (.get (.builtin "getset_descriptor.__get__") (.builtin "type.__name__") (.ref C) (.type "type"))
  lk : ∃ (od : Option Addr) (cd : ClassData) (sl : Array (Option Value)) (tk : Tok), K.lookup C = some ⟨.type "type", od, .cls cd, sl⟩ ∧ sl[2]? = some (some (.str nm tk))
section
open PySem.W PySem.Calls Builtin Builtin.Getset_descriptor
variable {prog : Program} {w : World} {A : Around} {E : Value → Shared → Prop} {s : Shared} {R : Result → Shared → Prop} {C : Addr} {nm : Str} {tk : Tok} {od : Option Addr} {cd : ClassData} {sl : Array (Option Value)}
theorem nm_get {tp : Value} (hC : s.heap.get? C = some ⟨.type "type", od, .cls cd, sl⟩) (hs : sl[2]? = some (some (.str nm tk))) (h : R (.ok (.ret (.str nm tk))) s) :
    codeAny (model prog w) A (.call (.builtin "getset_descriptor.__get__") ⟨[.builtin "type.__name__", .ref C, tp], []⟩) R s := by
  obtain ⟨hh, g, dr, t, os⟩ := s
  have L0 : Looks (model prog w) hh (typeOf (.ref C)) (.type "type") := fun A Q E s k q => by
    refine wpAny_typeOf ⟨_, k _ _ hC, rfl⟩ q
  have L1 : Looks (model prog w) hh (isSubtype (.type "type") (.type "type")) true := Looks.of_pure (by rw [isSubtype_type]; kernel_rfl)
  refine codeAny_call_builtin KF.slot_gs.plain KF.entry_gs (KF.slot_gs.check _ _ _ _ _ _ _ _ ktyn_type (KF.args_gs _ _ _) ?_)
  unfold Builtin.«getset_descriptor.__get__» descrGet
  rw [dga_obj]
  refine wpAny_bind (wpAny_pure ?_)
  unfold descrGetter descrCheckInstance descrNameAndClass isInstance
  simp only [ktyn_owner]
  repeat lk
  refine ⟨Code.quiet_builtin _ (by decide +kernel), codeAny_builtin ktyn_entry ?_⟩
  unfold Builtin.«type.__name__» keptObject PySem.slotAt
  dsimp only
  refine wpAny_bind (wpAny_bind (wpAny_loadPart_at hC ?_))
  simp only [hs, Option.join]
  first
    | exact wpAny_pure (wpAny_bind (wpAny_pure (wpAny_pure h)))
    | exact wpAny_pure (wpAny_bind (wpAny_bind (wpAny_pure (wpAny_pure h))))
    | exact wpAny_pure (wpAny_pure h)
    | exact wpAny_pure (wpAny_bind (wpAny_pure h))
    | exact wpAny_bind (wpAny_pure (wpAny_pure h))
    | trace_state
end
section
variable {X : Cx} {e : Expr} {ta : TE} {K : PySem.W.Frag} {pos : Pos}
def tName (K : PySem.W.Frag) (ta : TE) : TE := fun σ H Q => ta σ H fun x H1 => ∃ C nm, x = .ref C ∧ ClsNm K C nm ∧ Q (.str nm) H1
theorem pe_name (he : PE X e ta) (hb : attributeBase e "__name__" X.env (eval e X.env) = eval e X.env := by rfl) (hK : X.K = K := by rfl) : PE X (.Attribute e "__name__" pos) (tName K ta) := by
  cases hK
  refine ⟨fun pins s σ H Q I h => ?_⟩
  refine attr_of hb (thn (he.run pins s σ H _ I h) fun u s1 ⟨x, H1, I1, rx, C, nm, ex, k, q⟩ => ?_)
  subst ex
  obtain rfl : u = Value.ref C := rx
  obtain ⟨od, cd, sl, tk, hl, hs⟩ := k.lk
  refine PySem.W.cls_bind I1.kIn k.rd k.at_ (wpAny_call (nm_get (s := { s1 with toks := s1.toks + 1 }) (I1.kIn _ _ hl) hs ?_))
  exact PySem.W.handed_on rfl ⟨.str nm, H1, I1.tok _, ⟨_, rfl⟩, q⟩
/-! ### the class of an instance -/
structure HasCls (K : PySem.W.Frag) (C : Addr) : Prop where
  pg : PySem.W.plainGet K C "__class__" = true
  hd : PySem.W.hasDictIn K C = true
  at_ : PySem.W.findIn K (.ref C) "__class__" = some (some (.builtin "object.__class__"))
  sp : PySem.W.specialIn K (.builtin "object.__class__") "__get__" = some (some (.builtin "getset_descriptor.__get__"))
  tk : PySem.W.takesIn K (.builtin "object.__class__") = some true
  ob : PySem.W.mroIn K C (.type "object") = some true
def tClass (K : PySem.W.Frag) (ta : TE) : TE := fun σ H Q => ta σ H fun x H1 => ∃ a C dx fs, x = .ref a ∧ H1 a = some (.ins C dx fs) ∧ HasCls K C ∧ Q (.ref C) H1
theorem pe_class (he : PE X e ta) (hb : attributeBase e "__class__" X.env (eval e X.env) = eval e X.env := by rfl) (hK : X.K = K := by rfl) : PE X (.Attribute e "__class__" pos) (tClass K ta) := by
  cases hK
  refine ⟨fun pins s σ H Q I h => ?_⟩
  refine attr_of hb (thn (he.run pins s σ H _ I h) fun u s1 ⟨x, H1, I1, rx, a, C, dx, fs, ex, ha, k, q⟩ => ?_)
  subst ex
  obtain rfl : u = Value.ref a := rx
  obtain ⟨mA, J, _⟩ := ins_get I1.hok ha
  obtain ⟨od, J, _⟩ := J.look
  obtain ⟨m, hF⟩ := I1.fr
  exact PySem.W.get_class hF I1.ok.mod.kin J k.pg k.hd k.at_ k.sp k.tk k.ob ⟨.ref C, H1, I1.tok _, rfl, q⟩
end
/-! ### == and != by an own __eq__ -/
structure EqCls (K : PySem.W.Frag) (C D f : Addr) : Prop where
  eq : PySem.W.findIn K (.ref C) "__eq__" = some (some (.ref f))
  fn : PySem.W.isFn K (.ref f) = true
  nf : PySem.W.notFirst K C (.ref D) = true
  ne : PySem.W.findIn K (.ref C) "__ne__" = some (some (.builtin "object.__ne__"))
  ob : PySem.W.mroIn K C (.type "object") = some true
def rEqO (neg : Bool) (K : PySem.W.Frag) (f : Addr) (sp : Sp) : R2 := fun x y H Q => ∃ a b C dx fs D dy gs, x = .ref a ∧ y = .ref b ∧ H a = some (.ins C dx fs) ∧ H b = some (.ins D dy gs) ∧ EqCls K C D f ∧
  sp [.ref a, .ref b] H (fun v H' => ∃ r, v = .bl r ∧ Q (.bl (if neg then !r else r)) H') E0
section
open PySem.W
variable {prog : Program} {w : World} {A : Around} {E : Value → Shared → Prop} {s : Shared} {K : Frag} {x C : Addr} {ox : Obj} {od : Option Obj} {b tb : Value}
theorem bind_ne (self : Value) : bindSpecial (.builtin "object.__ne__") self = pure (.builtin "object.__ne__", [self]) := PySem.F.slot_object_ne.bind self
theorem ifBound_ne {M : Model} {args : List Value} {Q : Option Value → Shared → Prop} (X : K.In s.heap) (I : InstAt s.heap x ox C od) (hs : findIn K (.ref C) "__ne__" = some (some (.builtin "object.__ne__")))
    (h : wpAny M A (call (.builtin "object.__ne__") (.ref x :: args)) (fun v => Q (some v)) E s) : wpAny M A (callSpecialIfBound? (.ref x) "__ne__" args) Q E s := by
  simp only [callSpecialIfBound?, bindSpecialIfBound?]
  refine wpAny_holding (wpAny_bind (wpAny_bind (wpAny_bind (I.type.here ((looks_findIn X hs).here ?_)))))
  refine wpAny_bind (wpAny_askSetting (wpAny_ite ?_))
  have fin : wpAny M A (call (.builtin "object.__ne__") ([.ref x] ++ args) >>= fun v => pure (some v)) Q E s := wpAny_bind (wpAny_mono h (fun v s' h' => wpAny_pure h') fun _ _ h' => h')
  split
  · exact wpAny_bind (wpAny_of_eq (bind_ne _) (wpAny_pure (by exact fin)))
  · exact wpAny_tryCatch (wpAny_bind (wpAny_of_eq (bind_ne _) (wpAny_pure (by exact fin))))
/-- x != b, where x's class has object's __ne__: by its __eq__ -/
theorem ne_run {f : Addr} {Q : Value → Shared → Prop} (hu : A.units + 2 < cLine) (X : K.In s.heap) (I : InstAt s.heap x ox C od) (hb : Looks (model prog w) s.heap (typeOf b) tb) (hn : notFirst K C tb = true)
    (hne : findIn K (.ref C) "__ne__" = some (some (.builtin "object.__ne__"))) (hs : findIn K (.ref C) "__eq__" = some (some (.ref f))) (hf : isFn K (.ref f) = true) (hob : mroIn K C (.type "object") = some true)
    (h : wpAny (model prog w) A.in1 (call (.ref f) [.ref x, b]) (fun v s' => ∃ r, v = .bool r ∧ Q (.bool (!r)) s') (fun _ _ => False) s) : wpAny (model prog w) A (richCompare .NotEq (.ref x) b) Q E s := by
  have one : wpAny (model prog w) A (tryCompare (.ref x) "__ne__" b) (fun r s' => ∃ v, r = some v ∧ Q v s') E s := by
    unfold tryCompare
    refine wpAny_bind (ifBound_ne X I hne ?_)
    have sub : Looks (model prog w) s.heap (isInstance (.ref x) (.type "object")) true := I.type.andThen (looks_mroIn X hob)
    refine wpAny_call (codeAny_call_builtin PySem.F.slot_object_ne.plain PySem.F.entry_object_ne (@check_slot (model prog w) _ _ s "object.__ne__" "object" "__ne__" (.ref x) [b] [] _ (by decide +kernel) (by decide +kernel) sub (PySem.F.args_object_ne_2 _ _) ?_))
    unfold Builtin.«object.__ne__»
    refine wpAny_bind (wpAny_of_eq (a := (Value.ref x, [b])) (by first | rfl | kernel_rfl) ?_)
    dsimp only
    refine wpAny_bind (wpAny_cRoomFor (show A.in1.units < cLine from by show A.units + 1 < cLine; omega) ?_)
    refine wpAny_bind (ifBound_K X I hs hf (wpAny_mono h (fun v s' hv => ?_) fun _ _ z => z.elim))
    obtain ⟨r, rfl, q⟩ := hv
    dsimp only
    exact wpAny_bind (wpAny_truthy_bool (wpAny_pure (wpAny_pure ⟨_, rfl, q⟩)))
  unfold richCompare
  simp only [oneThing_ref]
  refine wpAny_holding (wpAny_bind (wpAny_cRoomFor (by omega) ?_))
  refine wpAny_bind (I.type.here (wpAny_bind (hb.here ?_)))
  have X' := X
  split
  · rename_i q
    have e : subIn K tb (.ref C) = some false := by
      rcases Bool.or_eq_true_iff.mp hn with e | e
      · rw [beq_iff_eq.mp e] at q; simp at q
      · exact beq_iff_eq.mp e
    refine wpAny_bind ((looks_subIn X e).here ?_)
    simp only [Bool.false_eq_true, if_false]
    refine wpAny_bind (wpAny_mono one (fun r s' z => ?_) fun _ _ e => e)
    obtain ⟨v, rfl, hq⟩ := z
    exact wpAny_pure hq
  · refine wpAny_bind (wpAny_pure ?_)
    simp only [Bool.false_eq_true, if_false]
    refine wpAny_bind (wpAny_mono one (fun r s' z => ?_) fun _ _ e => e)
    obtain ⟨v, rfl, hq⟩ := z
    exact wpAny_pure hq
end
section
variable {X : Cx} {K : PySem.W.Frag} {n : Nat} {f : Addr} {fd : FuncData} {ps : List Str} {sp : Sp}
theorem eqO_run {A : Around} (F : FnOk X.prog X.w X.K X.mg X.base CX0 n f fd ps sp) (hb : Binds X.K fd ps []) {pins : List (Addr × Obj)} {σ : L2.St} {H : Hp} {s : Shared} {a b : Addr} {Q : VK} (hr : Room n A) (hA : A.frames = X.A.frames) (I : Inv X pins σ H s)
    (h : sp [.ref a, .ref b] H Q E0) : codeAny (model X.prog X.w) A (.call (.ref f) ⟨[.ref a, .ref b], []⟩) (fun r s' => match r with | .ok (.ret v) => EP X pins σ Q v s' | _ => False) s := by
  have e0 : Env0 X.prog X.w X.K X.mg X.base A X.stack s H := by
    have e := I.env0
    exact ⟨by rw [hA]; exact e.frames, e.mod, e.bs, e.bsz, e.funs, e.frf, e.hok, e.bare⟩
  have hl := F.len _ _ _ _ h
  have r2 : Vals [V.ref a, V.ref b] [Value.ref a, Value.ref b] := .cons rfl (.cons rfl .nil)
  refine codeAny_mono (F.run A X.stack s H ⟨[.ref a, .ref b], []⟩ [.ref a, .ref b] [.ref a, .ref b] _ E0 hr e0 (by
    have := hb s [.ref a, .ref b] I.kIn (by simpa using hl)
    simpa using this) r2 h) fun r s' hq => ?_
  cases r with
  | error e => exact hq.elim
  | ok fl =>
    cases fl with
    | ret w => exact I.after hq
    | next => exact False.elim hq
    | brk => exact False.elim hq
    | cont => exact False.elim hq
theorem op_eqO (F : FnOk X.prog X.w X.K X.mg X.base CX0 n f fd ps sp) (hb : Binds X.K fd ps []) (hr : Room n X.A) (hK : X.K = K := by rfl) : OpR X (compareOp .Eq) (rEqO false K f sp) := by
  cases hK
  intro pins s σ H x y v u Q I rx ry h
  obtain ⟨a, b, C, dx, fs, D, dy, gs, rfl, rfl, ha, hb', k, hs⟩ := h
  cases rx
  cases ry
  obtain ⟨mA, J, _⟩ := ins_get I.hok ha
  obtain ⟨mB, J', _⟩ := ins_get I.hok hb'
  obtain ⟨od, J, _⟩ := J.look
  obtain ⟨od', J', _⟩ := J'.look
  obtain ⟨m, hF⟩ := I.fr
  show wpAny (model X.prog X.w) X.A (richCompare .Eq (.ref a) (.ref b)) (EP X pins σ Q) X.xe s
  refine PySem.W.cmp_K (op := .Eq) (tb := .ref D) hr.units0 hF I.ok.mod.kin J J'.type k.nf k.eq k.fn ?_
  refine wpAny_call (codeAny_mono (eqO_run F hb hr rfl I hs) fun r s' hq => ?_)
  cases r with
  | error e => exact hq.elim
  | ok fl =>
    cases fl with
    | ret w =>
      obtain ⟨z, H', I', rz, r, ez, q⟩ := hq
      subst ez
      obtain rfl : w = Value.bool r := rz
      exact ⟨.bl r, H', I', rfl, q⟩
    | next => exact hq.elim
    | brk => exact hq.elim
    | cont => exact hq.elim
theorem op_neO (F : FnOk X.prog X.w X.K X.mg X.base CX0 n f fd ps sp) (hb : Binds X.K fd ps []) (hr : Room (n + 1) X.A) (hK : X.K = K := by rfl) : OpR X (compareOp .NotEq) (rEqO true K f sp) := by
  cases hK
  intro pins s σ H x y v u Q I rx ry h
  obtain ⟨a, b, C, dx, fs, D, dy, gs, rfl, rfl, ha, hb', k, hs⟩ := h
  cases rx
  cases ry
  obtain ⟨mA, J, _⟩ := ins_get I.hok ha
  obtain ⟨mB, J', _⟩ := ins_get I.hok hb'
  obtain ⟨od, J, _⟩ := J.look
  obtain ⟨od', J', _⟩ := J'.look
  show wpAny (model X.prog X.w) X.A (richCompare .NotEq (.ref a) (.ref b)) (EP X pins σ Q) X.xe s
  refine ne_run (tb := .ref D) (by have := hr.un; omega) I.kIn J J'.type k.nf k.ne k.eq k.fn k.ob ?_
  refine wpAny_call (codeAny_mono (eqO_run (A := X.A.in1) F hb hr.in1 rfl I hs) fun r s' hq => ?_)
  cases r with
  | error e => exact hq.elim
  | ok fl =>
    cases fl with
    | ret w =>
      obtain ⟨z, H', I', rz, r, ez, q⟩ := hq
      subst ez
      obtain rfl : w = Value.bool r := rz
      exact ⟨r, rfl, .bl (!r), H', I', rfl, q⟩
    | next => exact hq.elim
    | brk => exact hq.elim
    | cont => exact hq.elim
end
/-! ### comparisons in a row, however many -/
section
variable {X : Cx} {a b : Expr} {ta tb : TE} {op op' : CmpOp} {ops : List CmpOp} {b' : Expr} {bs : List Expr} {r : R2} {pos : Pos} {t : V → TE} {t2 : V → TT}
structure PCh (X : Cx) (ops : List CmpOp) (rs : List Expr) (t : V → TE) (t2 : V → TT) : Prop where
  run : ∀ (pos : Pos) (pins : List (Addr × Obj)) (s : Shared) (σ : L2.St) (H : Hp) (x : V) (v : Value) (Q : VK), Inv X pins σ H s → RelV x v → t x σ H Q →
    wpAny (model X.prog X.w) X.A (compareChain pos v ops (evalEach rs X.env)) (EP X pins σ Q) X.xe s
  tst : ∀ (pos : Pos) (pins : List (Addr × Obj)) (s : Shared) (σ : L2.St) (H : Hp) (x : V) (v : Value) (Q : Bool → Hp → Prop), Inv X pins σ H s → RelV x v → t2 x σ H Q →
    wpAny (model X.prog X.w) X.A (testChain pos v ops (evalEach rs X.env)) (TP X pins σ Q) X.xe s
def tChL (r : R2) (tb : TE) (x : V) : TE := fun σ H Q => tb σ H fun y H2 => r x y H2 Q
def tChL2 (r : R2) (tb : TE) (x : V) : TT := fun σ H Q => tb σ H fun y H2 => r x y H2 fun z H3 => ∃ k, z = .bl k ∧ Q k H3
def tChC (r : R2) (tb : TE) (t : V → TE) (x : V) : TE := fun σ H Q => tb σ H fun y H2 => r x y H2 fun z H3 => ∃ k, z = .bl k ∧ if k = true then t y σ H3 Q else Q (.bl false) H3
def tChC2 (r : R2) (tb : TE) (t : V → TT) (x : V) : TT := fun σ H Q => tb σ H fun y H2 => r x y H2 fun z H3 => ∃ k, z = .bl k ∧ if k = true then t y σ H3 Q else Q false H3
theorem pch_last (ho : OpR X (compareOp op) r) (hb : PE X b tb) : PCh X [op] [b] (tChL r tb) (tChL2 r tb) := by
  refine ⟨fun pos pins s σ H x v Q I rx h => ?_, fun pos pins s σ H x v Q I rx h => ?_⟩
  · exact chain_last (thn (hb.run pins s σ H _ I h) fun u s2 ⟨y, H2, I2, r2, q2⟩ => ho pins s2 σ H2 x y v u Q I2 rx r2 q2)
  · refine test_last (thn (hb.run pins s σ H _ I h) fun u s2 ⟨y, H2, I2, r2, q2⟩ => thn (ho pins s2 σ H2 x y v u _ I2 rx r2 q2) fun d s3 ⟨z, H3, I3, r3, k, e, q3⟩ => ?_)
    subst e
    cases r3
    exact wpAny_truthy_bool ⟨H3, I3, q3⟩
theorem pch_cons (ho : OpR X (compareOp op) r) (hb : PE X b tb) (hr : PCh X (op' :: ops) (b' :: bs) t t2) : PCh X (op :: op' :: ops) (b :: b' :: bs) (tChC r tb t) (tChC2 r tb t2) := by
  refine ⟨fun pos pins s σ H x v Q I rx h => ?_, fun pos pins s σ H x v Q I rx h => ?_⟩
  · refine chain_link (thn (hb.run pins s σ H _ I h) fun u s2 ⟨y, H2, I2, r2, q2⟩ => thn (ho pins s2 σ H2 x y v u _ I2 rx r2 q2) fun d s3 ⟨z, H3, I3, r3, k, e, q3⟩ => ?_)
    subst e
    cases r3
    refine wpAny_truthy_bool ?_
    cases k with
    | false => exact ⟨.bl false, H3, I3, rfl, q3⟩
    | true => exact hr.run pos pins s3 σ H3 y u Q I3 r2 q3
  · refine test_link (thn (hb.run pins s σ H _ I h) fun u s2 ⟨y, H2, I2, r2, q2⟩ => thn (ho pins s2 σ H2 x y v u _ I2 rx r2 q2) fun d s3 ⟨z, H3, I3, r3, k, e, q3⟩ => ?_)
    subst e
    cases r3
    refine wpAny_truthy_bool ?_
    cases k with
    | false => exact ⟨H3, I3, q3⟩
    | true => exact hr.tst pos pins s3 σ H3 y u Q I3 r2 q3
def tCh (ta : TE) (t : V → TE) : TE := fun σ H Q => ta σ H fun x H1 => t x σ H1 Q
def tCh2 (ta : TE) (t : V → TT) : TT := fun σ H Q => ta σ H fun x H1 => t x σ H1 Q
theorem pe_chN (ha : PE X a ta) (h : PCh X (op :: op' :: ops) (b :: b' :: bs) t t2) (hm : lastMarks (op :: op' :: ops) (b :: b' :: bs) = false := by with_unfolding_all rfl) : PE X (.Compare a (op :: op' :: ops) (b :: b' :: bs) pos) (tCh ta t) := by
  refine ⟨fun pins s σ H Q I q => ?_⟩
  exact Compare_chain (thn (ha.run pins s σ H _ I q) fun v s1 ⟨x, H1, I1, r1, q1⟩ => h.run pos pins s1 σ H1 x v Q I1 r1 q1) hm
theorem pt_chN (ha : PE X a ta) (h : PCh X (op :: op' :: ops) (b :: b' :: bs) t t2) (hm : lastMarks (op :: op' :: ops) (b :: b' :: bs) = false := by with_unfolding_all rfl) : PT X (.Compare a (op :: op' :: ops) (b :: b' :: bs) pos) (tCh2 ta t2) := by
  refine ⟨fun pins s σ H Q I q => ?_⟩
  exact isTrue_chain (thn (ha.run pins s σ H _ I q) fun v s1 ⟨x, H1, I1, r1, q1⟩ => h.tst pos pins s1 σ H1 x v Q I1 r1 q1) hm
end
end HP
/-! own classes: what a class must have; starred defs; fixed values; papers -/
namespace HC
open PySem PySem.Spec PyProof.Rows L2 HX
/-! ### a def with a starred parameter, by what the text must have -/
structure StarFun (K : PySem.W.Frag) (x qual : Str) (st : Stmt) (f : Addr) (ps : List Str) (pv : Str) : Prop where
  ex : ∃ (oc : Value) (od : Option Addr) (dV kV doc pm : Value) (an : Option Addr) (cdv ct : Value) (osl : Array (Option Value)),
    K.lookup f = some ⟨oc, od, .func (PySem.W.fnOf x qual (defArgs st) (defBody st) (defScope st) dV kV doc pm an cdv ct), osl⟩ ∧ PySem.W.codeIn K cdv qual = true ∧
    ∀ us rest : List Value, us.length = ps.length → bindArgs (PySem.W.fnOf x qual (defArgs st) (defBody st) (defScope st) dV kV doc pm an cdv ct) ⟨us ++ rest, []⟩ = (newTuple rest >>= fun t => pure (ps.zip us ++ [(pv, t)]))
def starS (ps : List Str) (sp : Sp) : Sp := fun vs H Q E => ∃ ws rest, vs = ws ++ rest ∧ ws.length = ps.length ∧ rest.length ≤ sizeLine ∧ ∀ p, H p = Option.none → sp (ws ++ [V.ref p]) (upd H p (.tup rest)) Q E
section
variable {P : Program} {w : World} {K : PySem.W.Frag} {mg : Str → Option Value} {base : Heap}
theorem star_ok {x qual : Str} {st : Stmt} {f : Addr} {N ps : List Str} {pv : Str} {k : Nat} {sp : Sp} (F : StarFun K x qual st f ps pv) (S : FnScope N (ps ++ [pv]) (defScope st))
    (hbody : ∀ (cdv : Value) (A : Around) (outer : List Env) (s : Shared) (H : Hp) (vs : List V) (Q : VK) (E : XK), Room k (A.deeper (envOfC qual (defScope st) s.heap.objs.size f cdv)) → sp vs H Q E →
      ∃ t, PSs (cxOf CX0 P w K mg base N qual (defScope st) f cdv A outer s H E).nox (defBody st) t ∧ t { nx := fun _ H' => Q .non H', rt := Q } (start N vs) H) : FnR P w K mg base CX0 (k + 1) f (starS ps sp) := by
  obtain ⟨oc, od, dV, kV, doc, pm, an, cdv, ct, osl, lk, hcd, hb⟩ := F.ex
  refine StX.fn_star lk hcd S (StX.cxUp_none) hb fun A outer s H vs Q E hr hsp => ?_
  obtain ⟨t, h, q⟩ := hbody cdv A outer s H vs Q E hr hsp
  exact ⟨t, h.nox, q⟩
theorem FnOk.nil {CX : CXT} {f : Addr} {fd : FuncData} {ps : List Str} {k : Nat} : FnOk P w K mg base CX k f fd ps (fun _ _ _ _ => False) :=
  ⟨fun _ _ _ _ z => z.elim, fun _ _ _ _ _ _ _ _ _ _ _ _ _ z => z.elim⟩
end
/-! ### rules that name the written part -/
section
variable {X : Cx} {K : PySem.W.Frag} {o e value tg l : Expr} {f : Str} {pos pos' : Pos} {ta tv tl te : TE}
theorem pe_fldK (he : PE X e ta) (hb : attributeBase e f X.env (eval e X.env) = eval e X.env := by rfl) (hK : X.K = K := by rfl) : PE X (.Attribute e f pos) (tFld K ta f) := by cases hK; exact pe_fld he hb
theorem ps_fldK (ha : PE X o ta) (hv : PE X value tv) (hs : swapsWith value (some (.Attribute o f pos')) pos.line X.env = pure false := by rfl) (hK : X.K = K := by rfl) : PS X (.Assign [.Attribute o f pos'] value pos) (sFld K ta tv f) := by cases hK; exact ps_fld ha hv hs
theorem pe_revK {k : Nat} {p1 p2 p3 : Pos} (he : PE X e te) (hK : X.K = K := by rfl) : PE X (.Subscript e (.Slice none none (some (.UnaryOp .USub (.Constant (.int 1) k p1) p2)) p3) pos) (tRevL K te) := by cases hK; exact pe_revL he
theorem call_isiTK (hK : X.K = K := by rfl) : CallR X (.builtin "isinstance") (rIsiT K) := by cases hK; exact call_isiT
theorem cr_sortedK (hK : X.K = K := by rfl) : CallR X (.builtin "sorted") (rSorted K) := by cases hK; exact cr_sorted
/-- for over a list or a tuple -/
def iSeq (K : PySem.W.Frag) (tl : TE) : TI := fun σ H R => iList K tl σ H R ∨ iTup K tl σ H R
theorem pi_seqK (hl : PE X l tl) (hK : X.K = K := by rfl) : PI X tg l (iSeq K tl) := by
  cases hK
  exact ⟨fun pins s σ H R I h => h.elim (fun z => (pi_list hl).run pins s σ H R I z) (fun z => (pi_tup hl).run pins s σ H R I z)⟩
end
/-! ### steps of a walk -/
section
variable {K : PySem.W.Frag} {σ : L2.St} {H : Hp} {Q : VK}
theorem fld_ {ta : TE} {f : Str} (h : ta σ H fun x H1 => ∃ a C dx fs v, x = .ref a ∧ H1 a = some (.ins C dx fs) ∧ Cls K C ∧ NoAttr K C f ∧ fs.lookup f = some v ∧ Q v H1) : tFld K ta f σ H Q := h
theorem fldE_ {a C dx : Addr} {fs : List (Str × V)} {v : V} {f : Str} {P : V → Prop} (e : H a = some (.ins C dx fs)) (c : Cls K C) (n : NoAttr K C f) (l : fs.lookup f = some v) (q : P v) :
    ∃ a' C dx fs v, V.ref a = .ref a' ∧ H a' = some (.ins C dx fs) ∧ Cls K C ∧ NoAttr K C f ∧ fs.lookup f = some v ∧ P v := ⟨a, C, dx, fs, v, rfl, e, c, n, l, q⟩
theorem setf_ {ta tv : TE} {f : Str} {nx bk ct : L2.St → Hp → Prop} {rt : VK} (h : tv σ H fun y H1 => ta σ H1 fun x H2 => ∃ a C dx fs, x = .ref a ∧ H2 a = some (.ins C dx fs) ∧ Cls K C ∧ NoAttr K C f ∧ fs.length < 1000 ∧ nx σ (upd H2 a (.ins C dx (putF f y fs)))) : sFld K ta tv f ⟨nx, rt, bk, ct⟩ σ H := h
theorem setE_ {a C dx : Addr} {fs : List (Str × V)} {f : Str} {y : V} {R : Hp → Prop} (e : H a = some (.ins C dx fs)) (c : Cls K C) (n : NoAttr K C f) (l : Nat.ble fs.length 900 = true) (q : R (upd H a (.ins C dx (putF f y fs)))) :
    ∃ a' C dx fs, V.ref a = .ref a' ∧ H a' = some (.ins C dx fs) ∧ Cls K C ∧ NoAttr K C f ∧ fs.length < 1000 ∧ R (upd H a' (.ins C dx (putF f y fs))) := ⟨a, C, dx, fs, rfl, e, c, n, by have := Nat.le_of_ble_eq_true l; omega, q⟩
theorem rev_ {te : TE} (h : te σ H fun x H1 => ∃ a xs, x = .ref a ∧ SqL K H1 a xs ∧ ∀ p, H1 p = none → Q (.ref p) (upd H1 p (.lst xs.reverse))) : tRevL K te σ H Q := h
theorem isiT_ {x : V} {tp : Addr} {cs : List V} {t : Value} {us : List Value} {b : Bool} (e : H tp = some (.tup cs)) (p : Paired ClsV cs us) (ty : TyX K H x t) (k : PySem.W.kitAny K t us = some b) (q : Q (.bl b) H) : rIsiT K [x, .ref tp] H Q := ⟨x, tp, cs, t, us, b, rfl, e, p, ty, k, q⟩
theorem cls_ {ta : TE} (h : ta σ H fun x H1 => ∃ a C dx fs, x = .ref a ∧ H1 a = some (.ins C dx fs) ∧ HP.HasCls K C ∧ Q (.ref C) H1) : HP.tClass K ta σ H Q := h
theorem name_ {ta : TE} (h : ta σ H fun x H1 => ∃ C nm, x = .ref C ∧ HP.ClsNm K C nm ∧ Q (.str nm) H1) : HP.tName K ta σ H Q := h
end
theorem make_ {C : Addr} {sp : Sp} {E : XK} {t : TA} {σ : L2.St} {H : Hp} {Q : VK} (h : t σ H fun vs H1 => ∀ x dx, H1 x = Option.none → H1 dx = Option.none → dx ≠ x → sp (V.ref x :: vs) (upd (upd H1 dx (.own x)) x (.ins C dx [])) (fun v H2 => v = .non ∧ Q (.ref x) H2) E) : StX.tMakeR C sp E t σ H Q := h
/-- i if c else j -/
theorem joinB_ {c : Bool} {i j : Int} {σ : L2.St} {H : Hp} {Q : VK} (h : ∀ e : Int, (c = true ∧ e = i ∨ c = false ∧ e = j) → Q (.int e) H) : if c = true then tC (.int i) σ H Q else tC (.int j) σ H Q := by
  cases c with
  | true => exact h i (.inl ⟨rfl, rfl⟩)
  | false => exact h j (.inr ⟨rfl, rfl⟩)
/-- i if c else -j -/
theorem joinN_ {c : Bool} {i j : Int} {σ : L2.St} {H : Hp} {Q : VK} (h : ∀ e : Int, (c = true ∧ e = i ∨ c = false ∧ e = -j) → Q (.int e) H) : if c = true then tC (.int i) σ H Q else tUn (rU fun i => V.int (-i)) (tC (.int j)) σ H Q := by
  cases c with
  | true => exact h i (.inl ⟨rfl, rfl⟩)
  | false => exact ⟨j, rfl, h (-j) (.inr ⟨rfl, rfl⟩)⟩
def rBool1 : List V → Hp → VK → Prop := fun xs H Q => (∃ i, xs = [.int i] ∧ Q (.bl (i != 0)) H) ∨ ∃ k, xs = [.bl k] ∧ Q (.bl k) H
theorem call_boolU {X : Cx} : CallR X (.type "bool") rBool1 := call_bool1
theorem bool_bl_ {b : Bool} {H : Hp} {Q : VK} (q : Q (.bl b) H) : rBool1 [.bl b] H Q := .inr ⟨b, rfl, q⟩
theorem clsE_ {a C dx : Addr} {fs : List (Str × V)} {H : Hp} {K : PySem.W.Frag} {P : Addr → Prop} (e : H a = some (.ins C dx fs)) (c : HP.HasCls K C) (q : P C) : ∃ a' C dx fs, V.ref a = .ref a' ∧ H a' = some (.ins C dx fs) ∧ HP.HasCls K C ∧ P C := ⟨a, C, dx, fs, rfl, e, c, q⟩
theorem nameE_ {C : Addr} {nm : Str} {K : PySem.W.Frag} {P : Str → Prop} (c : HP.ClsNm K C nm) (q : P nm) : ∃ C' nm, V.ref C = .ref C' ∧ HP.ClsNm K C' nm ∧ P nm := ⟨C, nm, rfl, c, q⟩
theorem eqd_ {x y : V} {d e : PyData} {H : Hp} {K : PySem.W.Frag} {Q : VK} (h1 : Dp K H x d) (h2 : Dp K H y e) (s1 : SeqAt.shaped d = true) (s2 : SeqAt.shaped e = true) (q : Q (.bl (PyData.eqv d e)) H) : rEqU K x y H Q := .inr ⟨d, e, h1, h2, s1, s2, q⟩
theorem ned_ {x y : V} {d e : PyData} {H : Hp} {K : PySem.W.Frag} {Q : VK} (h1 : Dp K H x d) (h2 : Dp K H y e) (s1 : SeqAt.shaped d = true) (s2 : SeqAt.shaped e = true) (q : Q (.bl (!PyData.eqv d e)) H) : rNeU K x y H Q := .inr ⟨d, e, h1, h2, s1, s2, q⟩
/-! ### the answer of isinstance for two classes of a tuple -/
theorem kitAny_two {K : PySem.W.Frag} {t c d : Value} {a b : Bool} (h1 : PySem.W.kitOne K t c = some a) (h2 : PySem.W.kitOne K t d = some b) : PySem.W.kitAny K t [c, d] = some (a || b) := by
  unfold PySem.W.kitAny
  rw [h1]
  cases a with
  | true => rfl
  | false =>
    show PySem.W.kitAny K t [d] = _
    unfold PySem.W.kitAny
    rw [h2]
    cases b <;> rfl
/-! ### fixed values -/
/-- values nested at most n deep, none too long, no dicts -/
def okP : Nat → PyData → Bool
  | 0, .list _ => false
  | 0, .tuple _ => false
  | _, .dict _ => false
  | n + 1, .list xs => Nat.ble xs.length 100000 && xs.all (okP n)
  | n + 1, .tuple xs => Nat.ble xs.length 100000 && xs.all (okP n)
  | _, _ => true
/-- a tuple for each list, n deep -/
def fixP : Nat → PyData → PyData
  | n + 1, .list xs => .tuple (xs.map (fixP n))
  | n + 1, .tuple xs => .tuple (xs.map (fixP n))
  | _, d => d
theorem same_sql {K : PySem.W.Frag} {H H' : Hp} {c : Addr} {xs : List V} (x : Same H H') (h : SqL K H c xs) : SqL K H' c xs := by
  rcases h with (h | ⟨o, h⟩) | h
  · exact .inl (.inl (x _ _ h))
  · exact .inl (.inr ⟨o, x _ _ h⟩)
  · exact .inr h
mutual
theorem dp_same {K : PySem.W.Frag} {H H' : Hp} (e : Same H H') : ∀ {v : V} {d : PyData}, Dp K H v d → Dp K H' v d
  | _, _, .non => .non
  | _, _, .bl b => .bl b
  | _, _, .int i => .int i
  | _, _, .str x => .str x
  | _, _, .lst s a => .lst (same_sql e s) (dpAll_same e a)
  | _, _, .tup s a => .tup (HX.same_sqt e s) (dpAll_same e a)
theorem dpAll_same {K : PySem.W.Frag} {H H' : Hp} (e : Same H H') : ∀ {vs : List V} {ds : List PyData}, DpAll K H vs ds → DpAll K H' vs ds
  | _, _, .nil => .nil
  | _, _, .cons a b => .cons (dp_same e a) (dpAll_same e b)
end
theorem dpAll_len {K : PySem.W.Frag} {H : Hp} : ∀ {vs : List V} {ds : List PyData}, DpAll K H vs ds → vs.length = ds.length
  | _, _, .nil => rfl
  | _, _, .cons _ b => by rw [List.length_cons, List.length_cons, dpAll_len b]
theorem dpAll_at {K : PySem.W.Frag} {H : Hp} : ∀ {vs : List V} {ds : List PyData}, DpAll K H vs ds → ∀ {i : Nat} {v : V}, vs[i]? = some v → ∃ d, ds[i]? = some d ∧ Dp K H v d
  | _, _, .cons a _, 0, _, h => by cases h; exact ⟨_, rfl, a⟩
  | _, _, .cons _ b, i + 1, _, h => dpAll_at b (i := i) h
theorem dpAll_snoc {K : PySem.W.Frag} {H : Hp} : ∀ {vs : List V} {ds : List PyData} {v : V} {d : PyData}, DpAll K H vs ds → Dp K H v d → DpAll K H (vs ++ [v]) (ds ++ [d])
  | _, _, _, _, .nil, h => .cons h .nil
  | _, _, _, _, .cons a b, h => .cons a (dpAll_snoc b h)
theorem dpAll_ints {K : PySem.W.Frag} {H : Hp} (ns : List Int) : DpAll K H (ns.map V.int) (ns.map PyData.int) := by
  induction ns with
  | nil => exact .nil
  | cons n r ih => exact .cons (.int n) ih
mutual
/-- a value without lists -/
inductive Dt (K : PySem.W.Frag) (H : Hp) : V → PyData → Prop
  | non : Dt K H .non .none
  | bl (b : Bool) : Dt K H (.bl b) (.bool b)
  | int (i : Int) : Dt K H (.int i) (.int i)
  | str (x : Str) : Dt K H (.str x) (.str x)
  | tup {a : Addr} {xs : List V} {ds : List PyData} : SqT K H a xs → DtAll K H xs ds → Dt K H (.ref a) (.tuple ds)
inductive DtAll (K : PySem.W.Frag) (H : Hp) : List V → List PyData → Prop
  | nil : DtAll K H [] []
  | cons {v : V} {vs : List V} {d : PyData} {ds : List PyData} : Dt K H v d → DtAll K H vs ds → DtAll K H (v :: vs) (d :: ds)
end
mutual
theorem Dt.dp {K : PySem.W.Frag} {H : Hp} : ∀ {v : V} {d : PyData}, Dt K H v d → Dp K H v d
  | _, _, .non => .non
  | _, _, .bl b => .bl b
  | _, _, .int i => .int i
  | _, _, .str x => .str x
  | _, _, .tup s a => .tup s (DtAll.dp a)
theorem DtAll.dp {K : PySem.W.Frag} {H : Hp} : ∀ {vs : List V} {ds : List PyData}, DtAll K H vs ds → DpAll K H vs ds
  | _, _, .nil => .nil
  | _, _, .cons a b => .cons (Dt.dp a) (DtAll.dp b)
end
mutual
theorem dt_same {K : PySem.W.Frag} {H H' : Hp} (e : Same H H') : ∀ {v : V} {d : PyData}, Dt K H v d → Dt K H' v d
  | _, _, .non => .non
  | _, _, .bl b => .bl b
  | _, _, .int i => .int i
  | _, _, .str x => .str x
  | _, _, .tup s a => .tup (HX.same_sqt e s) (dtAll_same e a)
theorem dtAll_same {K : PySem.W.Frag} {H H' : Hp} (e : Same H H') : ∀ {vs : List V} {ds : List PyData}, DtAll K H vs ds → DtAll K H' vs ds
  | _, _, .nil => .nil
  | _, _, .cons a b => .cons (dt_same e a) (dtAll_same e b)
end
/-- nothing but tuples: what no tuple is may change -/
def NoTup (H : Hp) (D : Addr) : Prop := ∀ xs, ¬ Rd H D (.tup xs)
theorem noTup_lst {H : Hp} {D : Addr} {xs : List V} (h : H D = some (.lst xs)) : NoTup H D := fun ys z => by
  rcases z with z | ⟨o, z⟩ <;> rw [h] at z <;> cases z
theorem noTup_ins {H : Hp} {D C dx : Addr} {fs : List (Str × V)} (h : H D = some (.ins C dx fs)) : NoTup H D := fun ys z => by
  rcases z with z | ⟨o, z⟩ <;> rw [h] at z <;> cases z
theorem noTup_none {H : Hp} {D : Addr} (h : H D = none) : NoTup H D := fun ys z => by
  rcases z with z | ⟨o, z⟩ <;> rw [h] at z <;> cases z
theorem sqt_upd {K : PySem.W.Frag} {H : Hp} {D a : Addr} {o : HO} {xs : List V} (n : NoTup H D) (h : SqT K H a xs) : SqT K (upd H D o) a xs := by
  rcases h with h | h
  · have na : a ≠ D := fun e => n xs (e ▸ h)
    refine .inl ?_
    rcases h with h | ⟨u, h⟩
    · exact .inl (by rw [upd_ne na]; exact h)
    · exact .inr ⟨u, by rw [upd_ne na]; exact h⟩
  · exact .inr h
mutual
theorem dt_upd {K : PySem.W.Frag} {H : Hp} {D : Addr} {o : HO} (n : NoTup H D) : ∀ {v : V} {d : PyData}, Dt K H v d → Dt K (upd H D o) v d
  | _, _, .non => .non
  | _, _, .bl b => .bl b
  | _, _, .int i => .int i
  | _, _, .str x => .str x
  | _, _, .tup s a => .tup (sqt_upd n s) (dtAll_upd n a)
theorem dtAll_upd {K : PySem.W.Frag} {H : Hp} {D : Addr} {o : HO} (n : NoTup H D) : ∀ {vs : List V} {ds : List PyData}, DtAll K H vs ds → DtAll K (upd H D o) vs ds
  | _, _, .nil => .nil
  | _, _, .cons a b => .cons (dt_upd n a) (dtAll_upd n b)
end
theorem dtAll_snoc {K : PySem.W.Frag} {H : Hp} : ∀ {vs : List V} {ds : List PyData} {v : V} {d : PyData}, DtAll K H vs ds → Dt K H v d → DtAll K H (vs ++ [v]) (ds ++ [d])
  | _, _, _, _, .nil, h => .cons h .nil
  | _, _, _, _, .cons a b, h => .cons a (dtAll_snoc b h)
theorem dtAll_ints {K : PySem.W.Frag} {H : Hp} (ns : List Int) : DtAll K H (ns.map V.int) (ns.map PyData.int) := by
  induction ns with
  | nil => exact .nil
  | cons n r ih => exact .cons (.int n) ih
/-- neither a list nor a tuple stands there -/
def NoSq (H : Hp) (D : Addr) : Prop := (∀ xs, ¬ Rd H D (.tup xs)) ∧ ∀ xs, ¬ Rd H D (.lst xs)
theorem noSq_ins {H : Hp} {D C dx : Addr} {fs : List (Str × V)} (h : H D = some (.ins C dx fs)) : NoSq H D :=
  ⟨noTup_ins h, fun ys (z : Rd H D (.lst ys)) => by
    rcases z with z | ⟨o, z⟩ <;> rw [h] at z <;> cases z⟩
theorem sql_upd {K : PySem.W.Frag} {H : Hp} {D a : Addr} {o : HO} {xs : List V} (n : NoSq H D) (h : SqL K H a xs) : SqL K (upd H D o) a xs := by
  rcases h with h | h
  · have na : a ≠ D := fun e => n.2 xs (e ▸ h)
    refine .inl ?_
    rcases h with h | ⟨u, h⟩
    · exact .inl (by rw [upd_ne na]; exact h)
    · exact .inr ⟨u, by rw [upd_ne na]; exact h⟩
  · exact .inr h
mutual
theorem dp_upd {K : PySem.W.Frag} {H : Hp} {D : Addr} {o : HO} (n : NoSq H D) : ∀ {v : V} {d : PyData}, Dp K H v d → Dp K (upd H D o) v d
  | _, _, .non => .non
  | _, _, .bl b => .bl b
  | _, _, .int i => .int i
  | _, _, .str x => .str x
  | _, _, .lst s a => .lst (sql_upd n s) (dpAll_upd n a)
  | _, _, .tup s a => .tup (sqt_upd n.1 s) (dpAll_upd n a)
theorem dpAll_upd {K : PySem.W.Frag} {H : Hp} {D : Addr} {o : HO} (n : NoSq H D) : ∀ {vs : List V} {ds : List PyData}, DpAll K H vs ds → DpAll K (upd H D o) vs ds
  | _, _, .nil => .nil
  | _, _, .cons a b => .cons (dp_upd n a) (dpAll_upd n b)
end
/-- a comprehension over values, each made without lists by f -/
theorem lcD {K : PySem.W.Frag} {te : TE} {vs : List Nat} {σ : L2.St} {D a : Addr} {j : Nat} {H1 : Hp} {Qd : Hp → Prop} {xs : List V} {ds : List PyData} {J : It} (f : PyData → PyData) (hJ : (J = Itl K a ∧ SqL K H1 a xs) ∨ (J = Itt K a ∧ SqT K H1 a xs))
    (hA : DpAll K H1 xs ds) (hn : H1 D = none) (hl : Nat.ble xs.length 100000 = true) (hw : ∀ x, wipe ((wipe σ vs).set j (some x)) vs = wipe σ vs)
    (hs : ∀ (i : Nat) x d H' R, xs[i]? = some x → ds[i]? = some d → Dp K H' x d → (∀ y H4, Same H' H4 → Dt K H4 y (f d) → R y H4) → te ((wipe σ vs).set j (some x)) H' R)
    (hd : ∀ ys H', Same H1 H' → DtAll K H' ys (ds.map f) → H' D = some (.lst ys) → Qd H') : LcG J (gName j) tYes te vs σ D H1 Qd := by
  have hl2 := Nat.le_of_ble_eq_true hl
  have hln := dpAll_len hA
  have go : ∀ (i : Nat) x ys H, xs[i]? = some x → i < xs.length → ys.length = i → (Same H1 H ∧ DtAll K H ys ((ds.take i).map f)) → H D = some (.lst ys) → te ((wipe σ vs).set j (some x)) H (HX.LcK (fun i ys H => Same H1 H ∧ DtAll K H ys ((ds.take i).map f)) xs.length D i) := fun i x ys H hx hi hy ⟨e, a⟩ hD => by
    obtain ⟨d, hd1, hd2⟩ := dpAll_at (dpAll_same e hA) hx
    refine hs i x d H _ hx hd1 hd2 fun y H4 e4 hy4 => ?_
    have hD4 := e4 _ _ hD
    refine HX.lcK_ hD4 hy hi (by omega) ⟨HX.same_upd (e.trans e4) hn, ?_⟩
    have z := dtAll_snoc (dtAll_upd (o := .lst (ys ++ [y])) (noTup_lst hD4) (dtAll_same e4 a)) (dt_upd (o := .lst (ys ++ [y])) (noTup_lst hD4) hy4)
    have hi2 : i < ds.length := by omega
    have hg : ds[i]'hi2 = d := (List.getElem?_eq_some_iff.mp hd1).2
    rw [List.take_add_one, hd1, List.map_append]
    exact z
  rcases hJ with ⟨rfl, hS⟩ | ⟨rfl, hS⟩
  · refine HX.lcL (xs := xs) (fun i ys H => Same H1 H ∧ DtAll K H ys ((ds.take i).map f)) hw ⟨HX.same_new hn, .nil⟩ (fun i ys H p => same_sql p.1 hS) go fun ys H hy p hD => ?_
    refine hd ys H p.1 ?_ hD
    have z := p.2
    rw [hln, List.take_length] at z
    exact z
  · refine HX.lcT (xs := xs) (fun i ys H => Same H1 H ∧ DtAll K H ys ((ds.take i).map f)) hw ⟨HX.same_new hn, .nil⟩ (fun i ys H p => HX.same_sqt p.1 hS) go fun ys H hy p hD => ?_
    refine hd ys H p.1 ?_ hD
    have z := p.2
    rw [hln, List.take_length] at z
    exact z
/-- is it a list or a tuple -/
def isSeq : PyData → Bool
  | .list _ => true
  | .tuple _ => true
  | _ => false
theorem isLT {K : PySem.W.Frag} {H : Hp} {v : V} {d : PyData} (h : Dp K H v d) : ∃ t, TyX K H v t ∧ PySem.W.kitAny K t [.type "list", .type "tuple"] = some (isSeq d) := by
  cases h with
  | non => exact ⟨_, .base .non, kitAny_two (a := false) (b := false) (kit_ty (by decide +kernel)) (kit_ty (by decide +kernel))⟩
  | bl b => exact ⟨_, .base (.bl _), kitAny_two (a := false) (b := false) (kit_ty (by decide +kernel)) (kit_ty (by decide +kernel))⟩
  | int b => exact ⟨_, .base (.int _), kitAny_two (a := false) (b := false) (kit_ty (by decide +kernel)) (kit_ty (by decide +kernel))⟩
  | str b => exact ⟨_, .base (.str _), kitAny_two (a := false) (b := false) (kit_ty (by decide +kernel)) (kit_ty (by decide +kernel))⟩
  | lst s _ =>
    refine ⟨.type "list", ?_, kitAny_two (a := true) (b := false) (kit_ty (by decide +kernel)) (kit_ty (by decide +kernel))⟩
    rcases s with (s | ⟨o, s⟩) | ⟨o, its, n, e, c, _⟩
    · exact .base (.lst s)
    · exact .base (.frz s)
    · exact .kList e c
  | tup s _ =>
    refine ⟨.type "tuple", ?_, kitAny_two (a := false) (b := true) (kit_ty (by decide +kernel)) (kit_ty (by decide +kernel))⟩
    rcases s with (s | ⟨o, s⟩) | ⟨o, its, n, e, c, _⟩
    · exact .base (.tup s)
    · exact .fTuple s
    · exact .kTuple e c
theorem okP_list {n : Nat} {xs : List PyData} (h : okP n (.list xs) = true) : ∃ m, n = m + 1 ∧ Nat.ble xs.length 100000 = true ∧ ∀ x ∈ xs, okP m x = true := by
  cases n with
  | zero => simp [okP] at h
  | succ m => rw [okP, Bool.and_eq_true, List.all_eq_true] at h; exact ⟨m, rfl, h.1, h.2⟩
theorem okP_tuple {n : Nat} {xs : List PyData} (h : okP n (.tuple xs) = true) : ∃ m, n = m + 1 ∧ Nat.ble xs.length 100000 = true ∧ ∀ x ∈ xs, okP m x = true := by
  cases n with
  | zero => simp [okP] at h
  | succ m => rw [okP, Bool.and_eq_true, List.all_eq_true] at h; exact ⟨m, rfl, h.1, h.2⟩
theorem dt_leaf {K : PySem.W.Frag} {H : Hp} {v : V} {d : PyData} {n : Nat} (h : Dp K H v d) (l : isSeq d = false) : Dt K H v (fixP n d) := by
  cases h with
  | non => cases n <;> exact .non
  | bl b => cases n <;> exact .bl b
  | int b => cases n <;> exact .int b
  | str b => cases n <;> exact .str b
  | lst s _ => cases l
  | tup s _ => cases l
/-! ### papers -/
structure PC (K : PySem.W.Frag) (CP C : Addr) (nm : Str) : Prop where
  cl : Cls K C
  hc : HP.HasCls K C
  nm : HP.ClsNm K C nm
  word : NoAttr K C "word"
  parts : NoAttr K C "parts"
  isP : PySem.W.kitOne K (.ref C) (.ref CP) = some true
theorem PC.ty {K : PySem.W.Frag} {CP C : Addr} {nm : Str} (p : PC K CP C nm) {H : Hp} {a dx : Addr} {fs : List (Str × V)} (e : H a = some (.ins C dx fs)) : TyX K H (.ref a) (.ref C) :=
  .base (.ins e p.cl p.hc.at_ p.hc.sp p.hc.tk p.hc.ob)
/-- at a stands a paper of class C with its word, its parts and further fields -/
def Pap (K : PySem.W.Frag) (H : Hp) (a C : Addr) (w : Str) (d : PyData) (ex : List (Str × V)) : Prop := ∃ dx t, H a = some (.ins C dx (("word", .str w) :: ("parts", t) :: ex)) ∧ Dt K H t d
theorem Pap.same {K : PySem.W.Frag} {H H' : Hp} {a C : Addr} {w : Str} {d : PyData} {ex : List (Str × V)} (h : Pap K H a C w d ex) (e : Same H H') : Pap K H' a C w d ex := by
  obtain ⟨dx, t, h1, h2⟩ := h
  exact ⟨dx, t, e _ _ h1, dt_same e h2⟩
/-- what was made at a free place changes nothing else -/
theorem made {H H' : Hp} {x dx : Addr} {o o' : HO} (hx : H x = none) (hd : H dx = none) (k : Kept x (upd (upd H dx o) x o') H') : Same H H' := fun b u hb => by
  have n1 : b ≠ x := fun z => by rw [z, hx] at hb; cases hb
  have n2 : b ≠ dx := fun z => by rw [z, hd] at hb; cases hb
  exact k b u n1 (by rw [upd_ne n1, upd_ne n2]; exact hb)
theorem putF_word {w : V} : putF "word" w [] = [(("word" : Str), w)] := rfl
theorem putF_parts {w t : V} : putF "parts" t [(("word" : Str), w)] = [(("word" : Str), w), (("parts" : Str), t)] := by
  unfold putF
  rw [if_neg (by decide)]
  rfl
theorem putF_third {f : Str} {w t u : V} (h : ("word" : Str) ≠ f) (h2 : ("parts" : Str) ≠ f) : putF f u [(("word" : Str), w), (("parts" : Str), t)] = [(("word" : Str), w), (("parts" : Str), t), (f, u)] := by
  unfold putF
  rw [if_neg h]
  unfold putF
  rw [if_neg h2]
  rfl
theorem lk_word {w : V} {r : List (Str × V)} : List.lookup ("word" : Str) ((("word" : Str), w) :: r) = some w := rfl
theorem lk_parts {w t : V} {r : List (Str × V)} : List.lookup ("parts" : Str) ((("word" : Str), w) :: (("parts" : Str), t) :: r) = some t := by
  rw [List.lookup_cons, show (("parts" : Str) == ("word" : Str)) = false by decide]; rfl
theorem lk_third {f : Str} {w t u : V} {r : List (Str × V)} (h : (f == ("word" : Str)) = false) (h2 : (f == ("parts" : Str)) = false) : List.lookup f ((("word" : Str), w) :: (("parts" : Str), t) :: (f, u) :: r) = some u := by
  rw [List.lookup_cons, h, List.lookup_cons, h2, List.lookup_cons, beq_self_eq_true]
/-- a new instance, filled, is a thing that was not there -/
theorem Pap.upd {K : PySem.W.Frag} {H : Hp} {a C : Addr} {w : Str} {d : PyData} {ex : List (Str × V)} {D : Addr} {o : HO} (h : Pap K H a C w d ex) (n : a ≠ D) (nt : NoTup H D) : Pap K (L2.upd H D o) a C w d ex := by
  obtain ⟨dx, t, h1, h2⟩ := h
  exact ⟨dx, t, by rw [upd_ne n]; exact h1, dt_upd nt h2⟩
end HC
/-! the truth of an instance by an own __bool__ -/
namespace HB
open PySem PySem.Spec PyProof.Rows L2 HX
structure BoolCls (K : PySem.W.Frag) (C f : Addr) : Prop where
  at_ : PySem.W.findIn K (.ref C) "__bool__" = some (some (.ref f))
  fn : PySem.W.isFn K (.ref f) = true
def rTruO (K : PySem.W.Frag) (g : Addr → Option (Addr × Bool)) : V → Hp → (Bool → Hp → Prop) → Prop := fun x H Q => ∃ a C dx fs f b, x = .ref a ∧ H a = some (.ins C dx fs) ∧ g C = some (f, b) ∧ BoolCls K C f ∧ Q b H
/-- __bool__ tells b, whatever stands there -/
def spB (b : Bool) : Sp := fun vs H Q _ => ∃ a, vs = [.ref a] ∧ Q (.bl b) H
section
variable {X : Cx} {K : PySem.W.Frag} {n : Nat} {f : Addr} {fd : FuncData} {ps : List Str} {b : Bool}
def rTruB (K : PySem.W.Frag) (f : Addr) (b : Bool) : V → Hp → (Bool → Hp → Prop) → Prop := fun x H Q => ∃ a C dx fs, x = .ref a ∧ H a = some (.ins C dx fs) ∧ BoolCls K C f ∧ Q b H
theorem tru_own (F : FnOk X.prog X.w X.K X.mg X.base CX0 n f fd ps (spB b)) (hb : Binds X.K fd ps []) (hr : Room n X.A) (hK : X.K = K := by rfl) : TruR X (rTruB K f b) := by
  cases hK
  intro pins s σ H x v Q I rx h
  obtain ⟨a, C, dx, fs, rfl, ha, k, q⟩ := h
  cases rx
  obtain ⟨mA, J, _⟩ := ins_get I.hok ha
  obtain ⟨od, J, _⟩ := J.look
  obtain ⟨m, hF⟩ := I.fr
  refine PySem.W.truthy_K hF I.ok.mod.kin J k.at_ k.fn ?_
  have hl : 1 = ps.length := F.len [.ref a] H (fun _ _ => True) E0 ⟨a, rfl, True.intro⟩
  have r2 : Vals [V.ref a] [Value.ref a] := .cons rfl .nil
  refine wpAny_call (codeAny_mono (F.run X.A X.stack s H ⟨[.ref a], []⟩ [.ref a] [.ref a] (fun v H' => v = .bl b ∧ Q b H') E0 hr I.env0 (by
    have := hb s [.ref a] I.kIn (by simpa using hl)
    simpa using this) r2 ⟨a, rfl, rfl, q⟩) fun r s' hq => ?_)
  cases r with
  | error e => exact hq.elim
  | ok fl =>
    cases fl with
    | ret w =>
      obtain ⟨v, H', I', rv, ev, qq⟩ := I.after hq
      subst ev
      obtain rfl : w = Value.bool b := rv
      exact ⟨H', I', qq⟩
    | next => exact hq.elim
    | brk => exact hq.elim
    | cont => exact hq.elim
theorem TruR.or {r r' : V → Hp → (Bool → Hp → Prop) → Prop} (h : TruR X r) (h' : TruR X r') : TruR X (fun x H Q => r x H Q ∨ r' x H Q) := fun pins s σ H x v Q I rx q => q.elim (h pins s σ H x v Q I rx) (h' pins s σ H x v Q I rx)
end
/-! ### a call by names alone -/
section
variable {X : Cx} {CX : CXT} {k : Nat} {f : Addr} {fd : FuncData} {ps ks : List Str} {sp : Sp} {E : XK} {x : Str} {kws : List Keyword} {tk : TA} {p pos : Pos} {g : List Value → List Value → List Value} {gV : List V → List V → List V}
def tCallN0 (sp : Sp) (gV : List V → List V → List V) (E : XK) (tk : TA) : TE := fun σ H Q => tk σ H fun zs H2 => sp (gV [] zs) H2 Q E
theorem pe_callK0 (F : FnOk X.prog X.w X.K X.mg X.base CX k f fd ps sp) (hr : Room k X.A) (hg : Gl X x) (hm : X.mg x = some (.ref f)) (hk : PySem.W.keepIn X.K (.ref f) = true) (hb : KBinds X.K fd ps ks g gV) (hx : Passes CX X E) (hkw : PK X kws tk)
    (hall : (backToKw pos (keywordEach kws X.env)).all (·.1.isSome) = true := by rfl) (hks : (backToKw pos (keywordEach kws X.env)).filterMap (·.1) = ks := by rfl) (hdb : (x == ("__debug__" : Str)) = false := by decide)
    (hpl : ((backTo pos (starEach [] X.env)).any (·.1) || (backToKw pos (keywordEach kws X.env)).any (·.1.isNone)) = false := by rfl) :
    PE X (.Call (.Name x p) [] kws pos) (tCallN0 sp gV E tk) := by
  refine ⟨fun pins s σ H Q I h => ?_⟩
  refine wpAny_Call_Name_kw (ld_glob I hg hm ?_ hdb)
  refine PySem.W.callWith_KW0 (h₀ := X.base) I.ok.mod.kin hk hall ?_ hpl
  refine thn (hkw.run pos pins s σ H _ I h) fun ws s2 ⟨zs, H2, I2, rz, q2⟩ => ⟨I2.kIn, ?_⟩
  rw [hks]
  exact run_fnk (us := []) (vs := []) F hr hb hx I2 .nil rz q2
end
/-- names for four parameters, in any order, no positions -/
def perm (idx : List Nat) {α : Type} (d : α) (us ws : List α) : List α := if us.length = 0 ∧ ws.length = idx.length then idx.map fun i => ws.getD i d else []
theorem kb_mk {K : PySem.W.Frag} {fd : FuncData} {ps ks : List Str} {idx : List Nat} (hp : (ps.length == 0) = false) (h : ∀ ws : List Value, ws.length = idx.length → bindArgs fd ⟨[], ks.zip ws⟩ = pure (ps.zip (idx.map fun i => ws.getD i .none)))
    (hr : ∀ {vs zs : List V} {us ws : List Value}, Vals vs us → Vals zs ws → Vals (perm idx .non vs zs) (perm idx .none us ws)) : KBinds K fd ps ks (perm idx .none) (perm idx .non) := by
  refine ⟨fun s us ws _ hl => ?_, hr⟩
  unfold perm at hl ⊢
  by_cases z : us.length = 0 ∧ ws.length = idx.length
  · rw [if_pos z]
    obtain rfl : us = [] := List.length_eq_zero_iff.mp z.1
    exact .of_eq (h ws z.2)
  · rw [if_neg z] at hl
    have : ps.length = 0 := hl.symm
    rw [this] at hp
    cases hp
theorem getD_rel {vs : List V} {us : List Value} (r : Vals vs us) : ∀ i, RelV (vs.getD i .non) (us.getD i .none) := by
  intro i
  induction r generalizing i with
  | nil => exact rfl
  | cons h t ih =>
    cases i with
    | zero => exact h
    | succ i => exact ih i
theorem perm_rel {idx : List Nat} {vs zs : List V} {us ws : List Value} (r : Vals vs us) (rz : Vals zs ws) : Vals (perm idx .non vs zs) (perm idx .none us ws) := by
  unfold perm
  rw [r.length, rz.length]
  by_cases h : us.length = 0 ∧ ws.length = idx.length
  · rw [if_pos h, if_pos h]
    clear h
    induction idx with
    | nil => exact .nil
    | cons i t ih => exact .cons (getD_rel rz i) ih
  · rw [if_neg h, if_neg h]
    exact .nil
/-! ### lists of ints compared -/
theorem eqvAll_ints : ∀ ns ms : List Int, PyData.eqvAll (ns.map PyData.int) (ms.map PyData.int) = decide (ns = ms)
  | [], [] => by simp [PyData.eqvAll]
  | [], m :: ms => by simp [PyData.eqvAll]
  | n :: ns, [] => by simp [PyData.eqvAll]
  | n :: ns, m :: ms => by
    have ih := eqvAll_ints ns ms
    simp only [List.map_cons, PyData.eqvAll, ih, PyData.eqv]
    by_cases h : n = m
    · subst h
      simp
    · simp [h]
theorem eqv_ints (ns ms : List Int) : PyData.eqv (.list (ns.map PyData.int)) (.list (ms.map PyData.int)) = decide (ns = ms) := by
  simp only [PyData.eqv]
  exact eqvAll_ints ns ms
theorem eqI_ {K : PySem.W.Frag} {H : Hp} {Q : VK} {c e : Addr} {ns ms : List Int} (hc : SqL K H c (ns.map V.int)) (he : SqL K H e (ms.map V.int)) (h : Q (.bl (decide (ns = ms))) H) : rEqU K (.ref c) (.ref e) H Q :=
  HC.eqd_ (.lst hc (HC.dpAll_ints ns)) (.lst he (HC.dpAll_ints ms)) (PySem.W.shaped_ints ns) (PySem.W.shaped_ints ms) (by rw [eqv_ints]; exact h)
theorem neI_ {K : PySem.W.Frag} {H : Hp} {Q : VK} {c e : Addr} {ns ms : List Int} (hc : SqL K H c (ns.map V.int)) (he : SqL K H e (ms.map V.int)) (h : Q (.bl (!decide (ns = ms))) H) : rNeU K (.ref c) (.ref e) H Q :=
  HC.ned_ (.lst hc (HC.dpAll_ints ns)) (.lst he (HC.dpAll_ints ms)) (PySem.W.shaped_ints ns) (PySem.W.shaped_ints ms) (by rw [eqv_ints]; exact h)
end HB
/-! sums of powers: once not below nothing, then above -/
namespace THR
/-- p x^(p+1) + y^(p+1) - (p+1) y x^p -/
def E (p : Nat) (x y : Int) : Int := (p : Int) * x ^ (p + 1) + y ^ (p + 1) - ((p : Int) + 1) * (y * x ^ p)
theorem E_succ (p : Nat) (x y : Int) : E (p + 1) x y = y * E p x y + ((p : Int) + 1) * (x ^ p * ((x - y) * (x - y))) := by
  unfold E
  have h1 : x ^ (p + 1 + 1) = x ^ p * (x * x) := by rw [Int.pow_succ, Int.pow_succ, Int.mul_assoc]
  have h2 : x ^ (p + 1) = x ^ p * x := Int.pow_succ ..
  have h3 : y ^ (p + 1 + 1) = y * y ^ (p + 1) := by rw [Int.pow_succ, Int.mul_comm]
  rw [h1, h2, h3]
  generalize x ^ p = u
  generalize y ^ (p + 1) = v
  have e0 : ((p + 1 : Nat) : Int) = (p : Int) + 1 := by omega
  rw [e0]
  generalize (p : Int) = q
  simp only [Int.mul_sub, Int.sub_mul, Int.mul_add, Int.add_mul, Int.one_mul, Int.mul_one]
  have a1 : y * (q * (u * x)) = q * (y * (u * x)) := by ac_rfl
  have a2 : y * (q * (y * u)) = q * (u * (y * y)) := by ac_rfl
  have a3 : y * (y * u) = u * (y * y) := by ac_rfl
  have a4 : u * (y * x) = y * (u * x) := by ac_rfl
  have a5 : u * (x * y) = y * (u * x) := by ac_rfl
  have a6 : q * (u * (y * x)) = q * (y * (u * x)) := by ac_rfl
  have a7 : q * (u * (x * y)) = q * (y * (u * x)) := by ac_rfl
  rw [a1, a2, a3] 
  try rw [a4]
  try rw [a5]
  try rw [a6]
  try rw [a7]
  omega
theorem sq_pos {x y : Int} (h : x ≠ y) : 0 < (x - y) * (x - y) := by
  rcases Int.lt_or_gt_of_ne h with z | z
  · exact Int.mul_pos_of_neg_of_neg (by omega) (by omega)
  · exact Int.mul_pos (by omega) (by omega)
theorem E_pos {x y : Int} (hx : 0 < x) (hy : 0 < y) (h : x ≠ y) : ∀ p : Nat, 0 < E (p + 1) x y
  | 0 => by
    rw [E_succ]
    have e : E 0 x y = 0 := by
      unfold E
      have h1 : x ^ 0 = 1 := Int.pow_zero _
      have h2 : y ^ (0 + 1) = y := by rw [Int.pow_succ, Int.pow_zero, Int.one_mul]
      rw [h1, h2]
      simp
    rw [e]
    have := sq_pos h
    simp
    exact this
  | p + 1 => by
    rw [E_succ]
    have e1 := Int.mul_pos hy (E_pos hx hy h p)
    have e2 : 0 < ((p + 1 : Nat) : Int) + 1 := by omega
    have e3 := Int.mul_pos e2 (Int.mul_pos (Int.pow_pos (m := p + 1) hx) (sq_pos h))
    omega
/-- once the sum at p is not below nothing, the next one is above -/
theorem grows {a b c d : Int} (h1 : 0 < a) (h2 : a < b) (h3 : b ≤ c) (h4 : c < d) (p : Nat) (h : 0 ≤ a ^ (p + 1) + d ^ (p + 1) - b ^ (p + 1) - c ^ (p + 1)) : 0 < a ^ (p + 1 + 1) + d ^ (p + 1 + 1) - b ^ (p + 1 + 1) - c ^ (p + 1 + 1) := by
  have e1 := E_pos (x := d) (y := c) (by omega) (by omega) (by omega) p
  have e2 := E_pos (x := a) (y := b) (by omega) (by omega) (by omega) p
  unfold E at e1 e2
  have hq : (((p + 1 : Nat) : Int)) = (p : Int) + 1 := by omega
  rw [hq] at e1 e2
  have hb : b ^ (p + 1 + 1) = b * b ^ (p + 1) := by rw [Int.pow_succ, Int.mul_comm]
  have hc : c ^ (p + 1 + 1) = c * c ^ (p + 1) := by rw [Int.pow_succ, Int.mul_comm]
  have hD : 0 < b ^ (p + 1) - a ^ (p + 1) := by
    have : a ^ (p + 1) < b ^ (p + 1) := by
      obtain ⟨m, rfl⟩ := Int.eq_ofNat_of_zero_le (show 0 ≤ a by omega)
      obtain ⟨n, rfl⟩ := Int.eq_ofNat_of_zero_le (show 0 ≤ b by omega)
      have := Nat.pow_lt_pow_left (show m < n by omega) (show p + 1 ≠ 0 by omega)
      have e3 : ((m ^ (p + 1) : Nat) : Int) < ((n ^ (p + 1) : Nat) : Int) := by omega
      rw [Int.natCast_pow, Int.natCast_pow] at e3
      exact e3
    omega
  rw [hb] at e2
  rw [hc] at e1
  rw [hb, hc]
  have hq0 : 0 < (p : Int) + 1 := by omega
  generalize (p : Int) + 1 = q at e1 e2 hq0
  generalize a ^ (p + 1 + 1) = A2 at *
  generalize d ^ (p + 1 + 1) = D2 at *
  generalize a ^ (p + 1) = A at *
  generalize b ^ (p + 1) = B at *
  generalize c ^ (p + 1) = C at *
  generalize d ^ (p + 1) = D at *
  -- q (D2 - c C) > (q+1) c (D - C) >= (q+1) b (B - A) > q (b B - A2)
  have s1 : (q + 1) * (c * (D - C)) ≥ (q + 1) * (b * (B - A)) := by
    refine Int.mul_le_mul_of_nonneg_left ?_ (by omega)
    have t1 : b * (B - A) ≤ c * (B - A) := Int.mul_le_mul_of_nonneg_right h3 (by omega)
    have t2 : c * (B - A) ≤ c * (D - C) := Int.mul_le_mul_of_nonneg_left (by omega) (by omega)
    omega
  have s2 : 0 < q * (A2 + D2 - b * B - c * C) := by
    simp only [Int.mul_sub, Int.mul_add, Int.add_mul, Int.one_mul] at s1 e1 e2 ⊢
    omega
  rcases Int.lt_or_le 0 (A2 + D2 - b * B - c * C) with z | z
  · exact z
  · have := Int.mul_le_mul_of_nonneg_left z (show 0 ≤ q by omega)
    rw [Int.mul_zero] at this
    omega
end THR
/-! the walk on data: slots hold data, lists of one's own among them; no heap in sight -/
namespace HD
open PySem PySem.Spec PyProof.Rows L2 HX
inductive D where
  | non | bl (b : Bool) | int (i : Int) | str (x : Str) | ty (n : String) | glo (a : Addr) | hat
  | tup (xs : List D) | lst (xs : List D) | ins (C : Addr) (fs : List (Str × D))
def TsM (K : PySem.W.Frag) (M : Addr → Prop) (H : Hp) (a : Addr) (vs : List V) : Prop := (¬ M a ∧ H a = some (.tup vs)) ∨ SqT K (fun _ => none) a vs
mutual
/-- v stands for d; no changing thing in it -/
inductive R (K : PySem.W.Frag) (g : Addr) (M : Addr → Prop) (H : Hp) : V → D → Prop
  | non : R K g M H .non .non
  | bl (b : Bool) : R K g M H (.bl b) (.bl b)
  | int (i : Int) : R K g M H (.int i) (.int i)
  | str (x : Str) : R K g M H (.str x) (.str x)
  | ty (n : String) : R K g M H (.ty n) (.ty n)
  | glo (a : Addr) : R K g M H (.ref a) (.glo a)
  | hat : R K g M H (.ref g) .hat
  | lst {a : Addr} {vs : List V} {xs : List D} : ¬ M a → H a = some (.lst vs) → RA K g M H vs xs → R K g M H (.ref a) (.lst xs)
  | tup {a : Addr} {vs : List V} {xs : List D} : TsM K M H a vs → RA K g M H vs xs → R K g M H (.ref a) (.tup xs)
  | ins {a C dx : Addr} {fv : List (Str × V)} {fs : List (Str × D)} : ¬ M a → H a = some (.ins C dx fv) → RF K g M H fv fs → R K g M H (.ref a) (.ins C fs)
inductive RA (K : PySem.W.Frag) (g : Addr) (M : Addr → Prop) (H : Hp) : List V → List D → Prop
  | nil : RA K g M H [] []
  | cons {v : V} {vs : List V} {d : D} {ds : List D} : R K g M H v d → RA K g M H vs ds → RA K g M H (v :: vs) (d :: ds)
inductive RF (K : PySem.W.Frag) (g : Addr) (M : Addr → Prop) (H : Hp) : List (Str × V) → List (Str × D) → Prop
  | nil : RF K g M H [] []
  | cons {f : Str} {v : V} {vs : List (Str × V)} {d : D} {ds : List (Str × D)} : R K g M H v d → RF K g M H vs ds → RF K g M H ((f, v) :: vs) ((f, d) :: ds)
end
/-- what is allocated beside M stays, and stands beside M' -/
def Mv (M M' : Addr → Prop) (H H' : Hp) : Prop := ∀ a o, ¬ M a → H a = some o → ¬ M' a ∧ H' a = some o
section
variable {K : PySem.W.Frag} {g : Addr} {M M' : Addr → Prop} {H H' : Hp}
theorem TsM.mv (m : Mv M M' H H') {a : Addr} {vs : List V} (h : TsM K M H a vs) : TsM K M' H' a vs := h.elim (fun z => .inl (m a _ z.1 z.2)) .inr
theorem TsM.sqt {a : Addr} {vs : List V} (h : TsM K M H a vs) : SqT K H a vs := by
  rcases h with h | h
  · exact .inl (.inl h.2)
  · rcases h with (h | ⟨o, h⟩) | h
    · cases h
    · cases h
    · exact .inr h
mutual
theorem R.mv (m : Mv M M' H H') : ∀ {v : V} {d : D}, R K g M H v d → R K g M' H' v d
  | _, _, .non => .non
  | _, _, .bl b => .bl b
  | _, _, .int b => .int b
  | _, _, .str b => .str b
  | _, _, .ty b => .ty b
  | _, _, .glo b => .glo b
  | _, _, .hat => .hat
  | _, _, .lst n e a => .lst (m _ _ n e).1 (m _ _ n e).2 (RA.mv m a)
  | _, _, .tup s a => .tup (s.mv m) (RA.mv m a)
  | _, _, .ins n e a => .ins (m _ _ n e).1 (m _ _ n e).2 (RF.mv m a)
theorem RA.mv (m : Mv M M' H H') : ∀ {v : List V} {d : List D}, RA K g M H v d → RA K g M' H' v d
  | _, _, .nil => .nil
  | _, _, .cons a b => .cons (R.mv m a) (RA.mv m b)
theorem RF.mv (m : Mv M M' H H') : ∀ {v : List (Str × V)} {d : List (Str × D)}, RF K g M H v d → RF K g M' H' v d
  | _, _, .nil => .nil
  | _, _, .cons a b => .cons (R.mv m a) (RF.mv m b)
end
theorem RA.len : ∀ {vs : List V} {ds : List D}, RA K g M H vs ds → vs.length = ds.length
  | _, _, .nil => rfl
  | _, _, .cons _ b => by rw [List.length_cons, List.length_cons, RA.len b]
theorem RA.at : ∀ {vs : List V} {ds : List D} {i : Nat} {d : D}, RA K g M H vs ds → ds[i]? = some d → ∃ v, vs[i]? = some v ∧ R K g M H v d
  | _, _, _, _, .nil, e => by cases e
  | _, _, 0, _, .cons a _, e => by cases e; exact ⟨_, rfl, a⟩
  | _, _, i + 1, _, .cons _ b, e => RA.at (i := i) b e
theorem RA.atV : ∀ {vs : List V} {ds : List D} {i : Nat} {v : V}, RA K g M H vs ds → vs[i]? = some v → ∃ d, ds[i]? = some d ∧ R K g M H v d
  | _, _, _, _, .nil, e => by cases e
  | _, _, 0, _, .cons a _, e => by cases e; exact ⟨_, rfl, a⟩
  | _, _, i + 1, _, .cons _ b, e => RA.atV (i := i) b e
theorem RA.append : ∀ {vs ws : List V} {ds es : List D}, RA K g M H vs ds → RA K g M H ws es → RA K g M H (vs ++ ws) (ds ++ es)
  | _, _, _, _, .nil, h => h
  | _, _, _, _, .cons a b, h => .cons a (RA.append b h)
theorem RA.take : ∀ {vs : List V} {ds : List D} (n : Nat), RA K g M H vs ds → RA K g M H (vs.take n) (ds.take n)
  | _, _, 0, _ => .nil
  | _, _, _ + 1, .nil => .nil
  | _, _, n + 1, .cons a b => .cons a (RA.take n b)
theorem RA.drop : ∀ {vs : List V} {ds : List D} (n : Nat), RA K g M H vs ds → RA K g M H (vs.drop n) (ds.drop n)
  | _, _, 0, h => h
  | _, _, _ + 1, .nil => .nil
  | _, _, n + 1, .cons _ b => RA.drop n b
theorem RA.reverse : ∀ {vs : List V} {ds : List D}, RA K g M H vs ds → RA K g M H vs.reverse ds.reverse
  | _, _, .nil => .nil
  | _, _, .cons a b => by rw [List.reverse_cons, List.reverse_cons]; exact RA.append (RA.reverse b) (.cons a .nil)
theorem RA.set : ∀ {vs : List V} {ds : List D} {v : V} {d : D} (i : Nat), RA K g M H vs ds → R K g M H v d → RA K g M H (vs.set i v) (ds.set i d)
  | _, _, _, _, _, .nil, _ => .nil
  | _, _, _, _, 0, .cons _ b, h => .cons h b
  | _, _, _, _, i + 1, .cons a b, h => .cons a (RA.set i b h)
theorem RA.dropLast {vs : List V} {ds : List D} (h : RA K g M H vs ds) : RA K g M H vs.dropLast ds.dropLast := by
  rw [List.dropLast_eq_take, List.dropLast_eq_take, h.len]
  exact h.take _
theorem RA.atI {vs : List V} {ds : List D} {i : Int} {d : D} (h : RA K g M H vs ds) (e : atI ds i = some d) : ∃ v, L2.atI vs i = some v ∧ R K g M H v d := by
  unfold L2.atI at e ⊢
  rw [h.len]
  cases z : ixN ds.length i with
  | none => rw [z] at e; cases e
  | some j =>
    rw [z] at e
    exact h.at e
theorem RA.ints : ∀ {vs : List V} {is : List Int}, RA K g M H vs (is.map D.int) → vs = is.map V.int
  | _, [], h => by cases h; rfl
  | _, i :: is, h => by
    cases h with
    | cons a b => cases a; rw [RA.ints b]; rfl
theorem RA.ofInts : ∀ (is : List Int), RA K g M H (is.map V.int) (is.map D.int)
  | [] => .nil
  | i :: is => .cons (.int i) (RA.ofInts is)
theorem RA.strs : ∀ {vs : List V} {is : List Str}, RA K g M H vs (is.map D.str) → vs = is.map V.str
  | _, [], h => by cases h; rfl
  | _, i :: is, h => by
    cases h with
    | cons a b => cases a; rw [RA.strs b]; rfl
theorem RA.ofStrs : ∀ (is : List Str), RA K g M H (is.map V.str) (is.map D.str)
  | [] => .nil
  | i :: is => .cons (.str i) (RA.ofStrs is)
theorem RA.bls : ∀ {vs : List V} {is : List Bool}, RA K g M H vs (is.map D.bl) → vs = is.map V.bl
  | _, [], h => by cases h; rfl
  | _, i :: is, h => by
    cases h with
    | cons a b => cases a; rw [RA.bls b]; rfl
theorem RF.at : ∀ {fv : List (Str × V)} {fs : List (Str × D)} {f : Str} {d : D}, RF K g M H fv fs → fs.lookup f = some d → ∃ v, fv.lookup f = some v ∧ R K g M H v d
  | _, _, _, _, .nil, e => by cases e
  | _, _, f, _, .cons (f := x) a b, e => by
    rw [List.lookup_cons] at e ⊢
    cases z : f == x with
    | true => rw [z] at e; cases e; exact ⟨_, rfl, a⟩
    | false => rw [z] at e; exact RF.at b e
end
/-- a thing of one's own at a -/
def RO (K : PySem.W.Frag) (g : Addr) (M : Addr → Prop) (H : Hp) (a : Addr) : D → Prop
  | .lst xs => ∃ vs, H a = some (.lst vs) ∧ RA K g M H vs xs
  | .ins C fs => ∃ dx fv, H a = some (.ins C dx fv) ∧ RF K g M H fv fs
  | _ => False
section
variable {K : PySem.W.Frag} {g : Addr} {M M' : Addr → Prop} {H H' : Hp} {a : Addr} {d : D}
theorem RO.at (h : RO K g M H a d) : ∃ o, H a = some o := by
  cases d <;> first | exact h.elim | skip
  · obtain ⟨_, h, _⟩ := h; exact ⟨_, h⟩
  · obtain ⟨_, _, h, _⟩ := h; exact ⟨_, h⟩
theorem RO.mv (m : Mv M M' H H') (k : ∀ o, H a = some o → H' a = some o) (h : RO K g M H a d) : RO K g M' H' a d := by
  cases d <;> first | exact h.elim | skip
  · obtain ⟨_, h, r⟩ := h; exact ⟨_, k _ h, r.mv m⟩
  · obtain ⟨_, _, h, r⟩ := h; exact ⟨_, _, k _ h, r.mv m⟩
theorem RO.r (h : RO K g M H a d) (n : ¬ M a) : R K g M H (.ref a) d := by
  cases d <;> first | exact h.elim | skip
  · obtain ⟨_, h, r⟩ := h; exact .lst n h r
  · obtain ⟨_, _, h, r⟩ := h; exact .ins n h r
end
/-! ### slots and pending items -/
inductive S where
  | un | v (d : D) | ow (d : D) | me (a : Addr) (d : D)
/-- a pending item: a value; what slot i holds; a new list of nobody's -/
inductive I where
  | v (d : D) | b (i : Nat) (d : D) | o (d : D)
def I.val : I → D
  | .v d => d
  | .b _ d => d
  | .o d => d
inductive SR (K : PySem.W.Frag) (g : Addr) (M : Addr → Prop) (H : Hp) : S → List Addr → Option V → Prop
  | un (x : Option V) : SR K g M H .un [] x
  | v {v : V} {d : D} : R K g M H v d → SR K g M H (.v d) [] (some v)
  | ow {a : Addr} {d : D} : RO K g M H a d → SR K g M H (.ow d) [a] (some (.ref a))
  | me {a : Addr} {d : D} : RO K g M H a d → SR K g M H (.me a d) [a] (some (.ref a))
inductive SRs (K : PySem.W.Frag) (g : Addr) (M : Addr → Prop) (H : Hp) : List S → List Addr → L2.St → Prop
  | nil : SRs K g M H [] [] []
  | cons {s : S} {l : List Addr} {x : Option V} {ρ : List S} {L : List Addr} {σ : L2.St} : SR K g M H s l x → SRs K g M H ρ L σ → SRs K g M H (s :: ρ) (l ++ L) (x :: σ)
inductive IR (K : PySem.W.Frag) (g : Addr) (M : Addr → Prop) (H : Hp) (ρ : List S) (σ : L2.St) : I → List Addr → V → Prop
  | v {v : V} {d : D} : R K g M H v d → IR K g M H ρ σ (.v d) [] v
  | o {a : Addr} {d : D} : RO K g M H a d → IR K g M H ρ σ (.o d) [a] (.ref a)
  | b {i : Nat} {w : V} {d : D} : σ[i]? = some (some w) → (ρ[i]? = some (.ow d) ∨ ρ[i]? = some (.v d) ∨ ∃ a, ρ[i]? = some (.me a d)) → IR K g M H ρ σ (.b i d) [] w
inductive IRs (K : PySem.W.Frag) (g : Addr) (M : Addr → Prop) (H : Hp) (ρ : List S) (σ : L2.St) : List I → List Addr → List V → Prop
  | nil : IRs K g M H ρ σ [] [] []
  | cons {s : I} {l : List Addr} {x : V} {ds : List I} {L : List Addr} {vs : List V} : IR K g M H ρ σ s l x → IRs K g M H ρ σ ds L vs → IRs K g M H ρ σ (s :: ds) (l ++ L) (x :: vs)
section
variable {K : PySem.W.Frag} {g : Addr} {M M' : Addr → Prop} {H H' : Hp}
theorem SR.mv (m : Mv M M' H H') {s : S} {l : List Addr} {x : Option V} (k : ∀ a ∈ l, ∀ o, H a = some o → H' a = some o) (h : SR K g M H s l x) : SR K g M' H' s l x := by
  cases h with
  | un => exact .un _
  | v r => exact .v (r.mv m)
  | ow r => exact .ow (r.mv m (k _ (by simp)))
  | me r => exact .me (r.mv m (k _ (by simp)))
theorem SRs.mv (m : Mv M M' H H') : ∀ {ρ : List S} {L : List Addr} {σ : L2.St}, (∀ a ∈ L, ∀ o, H a = some o → H' a = some o) → SRs K g M H ρ L σ → SRs K g M' H' ρ L σ
  | _, _, _, _, .nil => .nil
  | _, _, _, k, .cons a b => .cons (a.mv m fun x hx => k x (List.mem_append_left _ hx)) (SRs.mv m (fun x hx => k x (List.mem_append_right _ hx)) b)
theorem IR.mv (m : Mv M M' H H') {ρ : List S} {σ : L2.St} {s : I} {l : List Addr} {x : V} (k : ∀ a ∈ l, ∀ o, H a = some o → H' a = some o) (h : IR K g M H ρ σ s l x) : IR K g M' H' ρ σ s l x := by
  cases h with
  | v r => exact .v (r.mv m)
  | o r => exact .o (r.mv m (k _ (by simp)))
  | b e r => exact .b e r
theorem IRs.mv (m : Mv M M' H H') {ρ : List S} {σ : L2.St} : ∀ {ds : List I} {L : List Addr} {vs : List V}, (∀ a ∈ L, ∀ o, H a = some o → H' a = some o) → IRs K g M H ρ σ ds L vs → IRs K g M' H' ρ σ ds L vs
  | _, _, _, _, .nil => .nil
  | _, _, _, k, .cons a b => .cons (a.mv m fun x hx => k x (List.mem_append_left _ hx)) (IRs.mv m (fun x hx => k x (List.mem_append_right _ hx)) b)
theorem SRs.at : ∀ {ρ : List S} {L : List Addr} {σ : L2.St} {i : Nat} {s : S}, SRs K g M H ρ L σ → ρ[i]? = some s →
    ∃ L1 l L2 x, L = L1 ++ (l ++ L2) ∧ σ[i]? = some x ∧ SR K g M H s l x ∧ ∀ {s' l' x'}, SR K g M H s' l' x' → SRs K g M H (ρ.set i s') (L1 ++ (l' ++ L2)) (σ.set i x')
  | _, _, _, _, _, .nil, e => by cases e
  | _, _, _, 0, _, .cons a b, e => by cases e; exact ⟨[], _, _, _, rfl, rfl, a, fun {_ l' _} h => SRs.cons (l := l') h b⟩
  | _, _, _, i + 1, _, .cons (l := l0) a b, e => by
    obtain ⟨L1, l, L2, x, e1, e2, e3, e4⟩ := SRs.at (i := i) b e
    refine ⟨l0 ++ L1, l, L2, x, by rw [e1, List.append_assoc], e2, e3, fun h => ?_⟩
    rw [List.append_assoc]
    exact .cons a (e4 h)
theorem SRs.atM : ∀ {ρ : List S} {L : List Addr} {σ : L2.St} {i : Nat} {s : S}, SRs K g M H ρ L σ → ρ[i]? = some s →
    ∃ L1 l L2 x, L = L1 ++ (l ++ L2) ∧ σ[i]? = some x ∧ SR K g M H s l x ∧ ∀ {M' H' s' l' x'}, Mv M M' H H' → (∀ a ∈ L1 ++ L2, ∀ o, H a = some o → H' a = some o) → SR K g M' H' s' l' x' → SRs K g M' H' (ρ.set i s') (L1 ++ (l' ++ L2)) (σ.set i x')
  | _, _, _, _, _, .nil, e => by cases e
  | _, _, _, 0, _, .cons a b, e => by cases e; exact ⟨[], _, _, _, rfl, rfl, a, fun {_ _ _ l' _} m k h => SRs.cons (l := l') h (b.mv m k)⟩
  | _, _, _, i + 1, _, .cons (l := l0) a b, e => by
    obtain ⟨L1, l, L2, x, e1, e2, e3, e4⟩ := SRs.atM (i := i) b e
    refine ⟨l0 ++ L1, l, L2, x, by rw [e1, List.append_assoc], e2, e3, fun {M' H' s' l' x'} m k h => ?_⟩
    rw [List.append_assoc]
    exact .cons (a.mv m fun x hx => k x (List.mem_append_left _ (List.mem_append_left _ hx))) (e4 m (fun x hx => k x (by
      rcases List.mem_append.mp hx with z | z
      · exact List.mem_append_left _ (List.mem_append_right _ z)
      · exact List.mem_append_right _ z)) h)
theorem SRs.len : ∀ {ρ : List S} {L : List Addr} {σ : L2.St}, SRs K g M H ρ L σ → ρ.length = σ.length
  | _, _, _, .nil => rfl
  | _, _, _, .cons _ b => by rw [List.length_cons, List.length_cons, SRs.len b]
theorem SRs.own : ∀ {ρ : List S} {L : List Addr} {σ : L2.St}, SRs K g M H ρ L σ → ∀ a ∈ L, ∃ o, H a = some o
  | _, _, _, .nil, _, h => by cases h
  | _, _, _, .cons a b, x, h => by
    rcases List.mem_append.mp h with z | z
    · cases a with
      | un => cases z
      | v _ => cases z
      | ow e => rw [List.mem_singleton.mp z]; exact e.at
      | me e => rw [List.mem_singleton.mp z]; exact e.at
    · exact SRs.own b x z
theorem IRs.own {ρ : List S} {σ : L2.St} : ∀ {ds : List I} {L : List Addr} {vs : List V}, IRs K g M H ρ σ ds L vs → ∀ a ∈ L, ∃ o, H a = some o
  | _, _, _, .nil, _, h => by cases h
  | _, _, _, .cons a b, x, h => by
    rcases List.mem_append.mp h with z | z
    · cases a with
      | v _ => cases z
      | o e => rw [List.mem_singleton.mp z]; exact e.at
      | b _ _ => cases z
    · exact IRs.own b x z
theorem IRs.split {ρ : List S} {σ : L2.St} : ∀ {d1 d2 : List I} {L : List Addr} {vs : List V}, IRs K g M H ρ σ (d1 ++ d2) L vs → ∃ L1 L2 v1 v2, L = L1 ++ L2 ∧ vs = v1 ++ v2 ∧ v1.length = d1.length ∧ IRs K g M H ρ σ d1 L1 v1 ∧ IRs K g M H ρ σ d2 L2 v2
  | [], _, _, _, h => ⟨[], _, [], _, rfl, rfl, rfl, .nil, h⟩
  | _ :: d1, _, _, _, .cons (l := l) (x := x) a b => by
    obtain ⟨L1, L2, v1, v2, e1, e2, e3, h1, h2⟩ := IRs.split (d1 := d1) b
    refine ⟨l ++ L1, L2, x :: v1, v2, by rw [e1, List.append_assoc], by rw [e2]; rfl, by rw [List.length_cons, List.length_cons, e3], .cons a h1, h2⟩
theorem IRs.join {ρ : List S} {σ : L2.St} : ∀ {d1 d2 : List I} {L1 L2 : List Addr} {v1 v2 : List V}, IRs K g M H ρ σ d1 L1 v1 → IRs K g M H ρ σ d2 L2 v2 → IRs K g M H ρ σ (d1 ++ d2) (L1 ++ L2) (v1 ++ v2)
  | _, _, _, _, _, _, .nil, h => h
  | _, _, _, _, _, _, .cons a b, h => by rw [List.append_assoc]; exact .cons a (IRs.join b h)
end
/-- where one stands: the reel, what else may change outside, the heap at the entry -/
structure Wd (K : PySem.W.Frag) where
  g : Addr
  k : Addr
  ns : List Int
  M0 : Addr → Prop
  H0 : Hp
def Mo {K : PySem.W.Frag} (c : Wd K) (L : List Addr) (a : Addr) : Prop := c.M0 a ∨ a ∈ L
structure StX {K : PySem.W.Frag} (c : Wd K) (L B : List Addr) (ρ : List S) (n : Nat) (ds : List I) (σ : L2.St) (H : Hp) (vs : List V) : Prop where
  sl : SRs K c.g (Mo c (L ++ B)) H ρ L σ
  it : IRs K c.g (Mo c (L ++ B)) H ρ σ ds B vs
  nd : (L ++ B).Nodup
  fr : ∀ a ∈ L ++ B, ¬ c.M0 a ∧ c.H0 a = none
  kp : Kept c.g c.H0 H
  hat : Hat H c.g c.k c.ns n
  mg : c.M0 c.g
  ml : c.M0 c.k
  md : ∀ a, c.M0 a → ∃ o, c.H0 a = some o
def St {K : PySem.W.Frag} (c : Wd K) (ρ : List S) (n : Nat) (ds : List I) (σ : L2.St) (H : Hp) (vs : List V) : Prop := ∃ L B, StX c L B ρ n ds σ H vs
section
variable {K : PySem.W.Frag} {c : Wd K} {L B : List Addr} {ρ : List S} {n : Nat} {ds : List I} {σ : L2.St} {H H' : Hp} {vs : List V} {v : V} {it : I} {p : Addr}
theorem StX.at (s : StX c L B ρ n ds σ H vs) : ∀ a, Mo c (L ++ B) a → ∃ o, H a = some o := fun a h => by
  rcases h with h | h
  · by_cases e : a = c.g
    · rw [e]; exact s.hat.at
    · obtain ⟨o, ho⟩ := s.md a h
      exact ⟨o, s.kp _ _ e ho⟩
  · rcases List.mem_append.mp h with z | z
    · obtain ⟨_, e⟩ := s.sl.own a z; exact ⟨_, e⟩
    · obtain ⟨_, e⟩ := s.it.own a z; exact ⟨_, e⟩
theorem StX.free (s : StX c L B ρ n ds σ H vs) (hp : H p = none) : ¬ Mo c (L ++ B) p := fun h => by
  obtain ⟨o, e⟩ := s.at p h
  rw [hp] at e; cases e
theorem mv_same {M : Addr → Prop} (e : Same H H') : Mv M M H H' := fun a o n h => ⟨n, e a o h⟩
theorem StX.same (s : StX c L B ρ n ds σ H vs) (e : Same H H') : StX c L B ρ n ds σ H' vs :=
  ⟨s.sl.mv (mv_same e) fun a _ o h => e a o h, s.it.mv (mv_same e) fun a _ o h => e a o h, s.nd, s.fr, s.kp.trans (kept_same e), s.hat.same e, s.mg, s.ml, s.md⟩
theorem St.same (s : St c ρ n ds σ H vs) (e : Same H H') : St c ρ n ds σ H' vs := by
  obtain ⟨L, B, s⟩ := s
  exact ⟨L, B, s.same e⟩
/-- the reel is drawn from, nothing else -/
theorem StX.kept {m : Nat} (s : StX c L B ρ n ds σ H vs) (e : Kept c.g H H') (h : Hat H' c.g c.k c.ns m) : StX c L B ρ m ds σ H' vs := by
  have hk : ∀ a ∈ L ++ B, ∀ o, H a = some o → H' a = some o := fun a ha o ho => e a o (fun z => (s.fr a ha).1 (z ▸ s.mg)) ho
  have mv : Mv (Mo c (L ++ B)) (Mo c (L ++ B)) H H' := fun a o na ho => ⟨na, e a o (fun z => na (.inl (z ▸ s.mg))) ho⟩
  exact ⟨s.sl.mv mv fun a ha => hk a (List.mem_append_left _ ha), s.it.mv mv fun a ha => hk a (List.mem_append_right _ ha), s.nd, s.fr, s.kp.trans e, h, s.mg, s.ml, s.md⟩
theorem mv_less {M M' : Addr → Prop} (e : ∀ a, M' a → M a) : Mv M M' H H := fun a o n h => ⟨fun z => n (e a z), h⟩
theorem mo_less {L L' : List Addr} (e : ∀ a ∈ L', a ∈ L) : ∀ a, Mo c L' a → Mo c L a := fun a h => h.elim .inl fun z => .inr (e a z)
/-- the topmost item goes -/
theorem StX.pop {d : I} (s : StX c L B ρ n (d :: ds) σ H (v :: vs)) : ∃ B', StX c L B' ρ n ds σ H vs := by
  obtain ⟨sl, it, nd, fr, kp, hat, mg, ml, md⟩ := s
  cases it with
  | @cons _ l _ _ B2 _ a b =>
    have hs : ∀ a ∈ L ++ B2, a ∈ L ++ (l ++ B2) := fun a ha => by
      rcases List.mem_append.mp ha with z | z
      · exact List.mem_append_left _ z
      · exact List.mem_append_right _ (List.mem_append_right _ z)
    refine ⟨B2, sl.mv (mv_less (mo_less hs)) fun _ _ _ h => h, b.mv (mv_less (mo_less hs)) fun _ _ _ h => h, ?_, fun a ha => fr a (hs a ha), kp, hat, mg, ml, md⟩
    exact nd.sublist ((List.Sublist.refl L).append (List.sublist_append_right l B2))
theorem St.pop {d : I} (s : St c ρ n (d :: ds) σ H (v :: vs)) : St c ρ n ds σ H vs := by
  obtain ⟨L, B, s⟩ := s
  obtain ⟨B', s⟩ := s.pop
  exact ⟨L, B', s⟩
theorem StX.pushR {d : D} (s : StX c L B ρ n ds σ H vs) (r : R K c.g (Mo c (L ++ B)) H v d) : StX c L B ρ n (.v d :: ds) σ H (v :: vs) :=
  ⟨s.sl, .cons (l := []) (.v r) s.it, s.nd, s.fr, s.kp, s.hat, s.mg, s.ml, s.md⟩
/-- what stands for itself -/
def sc : V → D → Prop
  | .non, .non => True
  | .bl a, .bl b => a = b
  | .int a, .int b => a = b
  | .str a, .str b => a = b
  | .ty a, .ty b => a = b
  | _, _ => False
theorem sc.r {g : Addr} {M : Addr → Prop} {d : D} (h : sc v d) : R K g M H v d := by
  cases v <;> cases d <;> first | exact h.elim | (cases h; constructor)
theorem St.pushS {d : D} (s : St c ρ n ds σ H vs) (r : sc v d) : St c ρ n (.v d :: ds) σ H (v :: vs) := by
  obtain ⟨L, B, s⟩ := s
  exact ⟨L, B, s.pushR r.r⟩
theorem StX.old {B' : List Addr} (s : StX c L B ρ n ds σ H vs) (h : ∀ a ∈ B', H a = none) : Mv (Mo c (L ++ B)) (Mo c (L ++ (B' ++ B))) H H := fun a o na ho => ⟨fun z => by
  rcases z with z | z
  · exact na (.inl z)
  · rcases List.mem_append.mp z with z | z
    · exact na (.inr (List.mem_append_left _ z))
    · rcases List.mem_append.mp z with z | z
      · rw [h a z] at ho; cases ho
      · exact na (.inr (List.mem_append_right _ z)), ho⟩
/-- a new list -/
theorem StX.pushO {xs : List D} {ws : List V} (s : StX c L B ρ n ds σ H vs) (hp : H p = none) (r : RA K c.g (Mo c (L ++ B)) H ws xs) : StX c L ([p] ++ B) ρ n (.o (.lst xs) :: ds) σ (upd H p (.lst ws)) (.ref p :: vs) := by
  have sm : Same H (upd H p (.lst ws)) := HX.same_new hp
  have mv : Mv (Mo c (L ++ B)) (Mo c (L ++ ([p] ++ B))) H (upd H p (.lst ws)) := fun a o na ho => ⟨(s.old (B' := [p]) (fun a ha => by rw [List.mem_singleton.mp ha]; exact hp) a o na ho).1, sm a o ho⟩
  refine ⟨s.sl.mv mv fun a _ o h => sm a o h, .cons (l := [p]) (.o ⟨_, upd_same, r.mv mv⟩) (s.it.mv mv fun a _ o h => sm a o h), ?_, fun a ha => ?_, s.kp.trans (kept_same sm), s.hat.same sm, s.mg, s.ml, s.md⟩
  · have hn : p ∉ L ++ B := fun z => s.free hp (.inr z)
    exact (List.perm_middle (a := p) (l₁ := L) (l₂ := B)).nodup_iff.mpr (List.nodup_cons.mpr ⟨hn, s.nd⟩)
  · rcases List.mem_append.mp ha with z | z
    · exact s.fr a (List.mem_append_left _ z)
    · rcases List.mem_append.mp z with z | z
      · rw [List.mem_singleton.mp z]
        refine ⟨fun q => s.free hp (.inl q), ?_⟩
        by_cases e : p = c.g
        · exact absurd s.mg (fun q => s.free hp (.inl (e ▸ q)))
        · cases q : c.H0 p with
          | none => rfl
          | some o => have := s.kp _ _ e q; rw [hp] at this; cases this
      · exact s.fr a (List.mem_append_right _ z)
/-- a new tuple -/
theorem StX.pushT {xs : List D} {ws : List V} (s : StX c L B ρ n ds σ H vs) (hp : H p = none) (r : RA K c.g (Mo c (L ++ B)) H ws xs) : StX c L B ρ n (.v (.tup xs) :: ds) σ (upd H p (.tup ws)) (.ref p :: vs) := by
  have sm : Same H (upd H p (.tup ws)) := HX.same_new hp
  exact (s.same sm).pushR (.tup (.inl ⟨s.free hp, upd_same⟩) (r.mv (mv_same sm)))
/-- an item's list -/
theorem StX.ls {xs : List D} (s : StX c L B ρ n (it :: ds) σ H (v :: vs)) (e : it.val = .lst xs) : ∃ a ws, v = .ref a ∧ H a = some (.lst ws) ∧ RA K c.g (Mo c (L ++ B)) H ws xs := by
  cases s.it with
  | cons a _ =>
    cases a with
    | v r => cases (show _ = D.lst xs from e); cases r with | lst n h q => exact ⟨_, _, rfl, h, q⟩
    | o h => cases (show _ = D.lst xs from e); obtain ⟨_, h, q⟩ := h; exact ⟨_, _, rfl, h, q⟩
    | @b i _ _ h q =>
      cases (show _ = D.lst xs from e)
      rcases q with q | q | ⟨a, q⟩
      · obtain ⟨_, _, _, x, _, e2, e3, _⟩ := s.sl.at q
        rw [h] at e2; cases e2
        cases e3 with | ow h2 => obtain ⟨_, h2, r⟩ := h2; exact ⟨_, _, rfl, h2, r⟩
      · obtain ⟨_, _, _, x, _, e2, e3, _⟩ := s.sl.at q
        rw [h] at e2; cases e2
        cases e3 with | v r => cases r with | lst n h2 r => exact ⟨_, _, rfl, h2, r⟩
      · obtain ⟨_, _, _, x, _, e2, e3, _⟩ := s.sl.at q
        rw [h] at e2; cases e2
        cases e3 with | me h2 => obtain ⟨_, h2, r⟩ := h2; exact ⟨_, _, rfl, h2, r⟩
theorem StX.val {d : D} (s : StX c L B ρ n (.v d :: ds) σ H (v :: vs)) : R K c.g (Mo c (L ++ B)) H v d := by
  cases s.it with
  | cons a _ => cases a with | v r => exact r
end
end HD
/-! the judgements of the walk on data, and their steps -/
namespace HD
open PySem PySem.Spec PyProof.Rows L2 HX
abbrev QI := I → List S → Nat → Prop
abbrev QS := List S → Nat → Prop
section
variable {K : PySem.W.Frag}
def GE (c : Wd K) (ρ : List S) (n : Nat) (ds : List I) (t : TE) (Q : QI) : Prop :=
  ∀ σ H vs (F : VK), St c ρ n ds σ H vs → (∀ it ρ' n' v H', Q it ρ' n' → St c ρ' n' (it :: ds) σ H' (v :: vs) → F v H') → t σ H F
def GT (c : Wd K) (ρ : List S) (n : Nat) (ds : List I) (t : TT) (Q : Bool → QS) : Prop :=
  ∀ σ H vs (F : Bool → Hp → Prop), St c ρ n ds σ H vs → (∀ b ρ' n' H', Q b ρ' n' → St c ρ' n' ds σ H' vs → F b H') → t σ H F
def GA (c : Wd K) (ρ : List S) (n : Nat) (ds : List I) (t : TA) (Q : List I → QS) : Prop :=
  ∀ σ H vs (F : List V → Hp → Prop), St c ρ n ds σ H vs → (∀ its ρ' n' xs H', Q its ρ' n' → xs.length = its.length → St c ρ' n' (its ++ ds) σ H' (xs ++ vs) → F xs H') → t σ H F
/-- a two-place operation on the two topmost items -/
def GO (c : Wd K) (ρ : List S) (n : Nat) (ds : List I) (r : R2) (ix iy : I) (Q : QI) : Prop :=
  ∀ σ H vs x y (F : VK), St c ρ n (iy :: ix :: ds) σ H (y :: x :: vs) → (∀ it ρ' n' v H', Q it ρ' n' → St c ρ' n' (it :: ds) σ H' (v :: vs) → F v H') → r x y H F
def GU (c : Wd K) (ρ : List S) (n : Nat) (ds : List I) (r : V → Hp → VK → Prop) (ix : I) (Q : QI) : Prop :=
  ∀ σ H vs x (F : VK), St c ρ n (ix :: ds) σ H (x :: vs) → (∀ it ρ' n' v H', Q it ρ' n' → St c ρ' n' (it :: ds) σ H' (v :: vs) → F v H') → r x H F
/-- a call of a built-in with items -/
def GB (c : Wd K) (ρ : List S) (n : Nat) (ds : List I) (r : List V → Hp → VK → Prop) (its : List I) (Q : QI) : Prop :=
  ∀ σ H vs xs (F : VK), xs.length = its.length → St c ρ n (its ++ ds) σ H (xs ++ vs) → (∀ it ρ' n' v H', Q it ρ' n' → St c ρ' n' (it :: ds) σ H' (v :: vs) → F v H') → r xs H F
/-- a method of a built-in type -/
def GM (c : Wd K) (ρ : List S) (n : Nat) (ds : List I) (r : V → List V → Hp → VK → Prop) (ix : I) (its : List I) (Q : QI) : Prop :=
  ∀ σ H vs x xs (F : VK), xs.length = its.length → St c ρ n (its ++ ix :: ds) σ H (xs ++ x :: vs) → (∀ it ρ' n' v H', Q it ρ' n' → St c ρ' n' (it :: ds) σ H' (v :: vs) → F v H') → r x xs H F
/-- a target -/
def GG (c : Wd K) (ρ : List S) (n : Nat) (ds : List I) (g : TG) (it : I) (Q : QS) : Prop :=
  ∀ σ H vs v (F : L2.St → Hp → Prop), St c ρ n (it :: ds) σ H (v :: vs) → (∀ ρ' n' σ' H', Q ρ' n' → St c ρ' n' ds σ' H' vs → F σ' H') → g v σ H F
def GGs (c : Wd K) (ρ : List S) (n : Nat) (ds : List I) (g : TGs) (its : List I) (Q : QS) : Prop :=
  ∀ σ H vs xs (F : L2.St → Hp → Prop), xs.length = its.length → St c ρ n (its ++ ds) σ H (xs ++ vs) → (∀ ρ' n' σ' H', Q ρ' n' → St c ρ' n' ds σ' H' vs → F σ' H') → g xs σ H F
structure Es where
  nx : QS
  rt : I → Nat → Prop
  bk : QS
  ct : QS
/-- what is handed back -/
def Rt (c : Wd K) (H : Hp) (v : V) : I → Prop
  | .v d => R K c.g c.M0 H v d
  | .o d => ∃ p, v = .ref p ∧ c.H0 p = none ∧ ¬ c.M0 p ∧ RO K c.g (fun a => c.M0 a ∨ a = p) H p d
  | .b _ _ => False
structure EOk (c : Wd K) (ds : List I) (vs : List V) (D : Es) (E : Ends) : Prop where
  nx : ∀ ρ n σ H, D.nx ρ n → St c ρ n ds σ H vs → E.nx σ H
  rt : ∀ it n v H, D.rt it n → Kept c.g c.H0 H → Hat H c.g c.k c.ns n → Rt c H v it → E.rt v H
  bk : ∀ ρ n σ H, D.bk ρ n → St c ρ n ds σ H vs → E.bk σ H
  ct : ∀ ρ n σ H, D.ct ρ n → St c ρ n ds σ H vs → E.ct σ H
def GS (c : Wd K) (ρ : List S) (n : Nat) (ds : List I) (t : TS) (D : Es) : Prop :=
  ∀ σ H vs E, St c ρ n ds σ H vs → EOk c ds vs D E → t E σ H
section
variable {c : Wd K} {ρ : List S} {n : Nat} {ds : List I} {nx bk ct : QS} {rt : I → Nat → Prop} {t u : TS} {te : TE} {g : TG} {cc : TT}
/-! ### statements -/
theorem seq_ (h : GS c ρ n ds t ⟨fun ρ' n' => GS c ρ' n' ds u ⟨nx, rt, bk, ct⟩, rt, bk, ct⟩) : GS c ρ n ds (tSeq t u) ⟨nx, rt, bk, ct⟩ := fun σ H vs E s k =>
  h σ H vs ⟨u E, E.rt, E.bk, E.ct⟩ s ⟨fun ρ n σ H q s' => q σ H vs E s' k, k.rt, k.bk, k.ct⟩
theorem cut_ (Mid : QS) (h : GS c ρ n ds t ⟨Mid, rt, bk, ct⟩) (h2 : ∀ ρ' n', Mid ρ' n' → GS c ρ' n' ds u ⟨nx, rt, bk, ct⟩) : GS c ρ n ds (tSeq t u) ⟨nx, rt, bk, ct⟩ := fun σ H vs E s k =>
  h σ H vs ⟨u E, E.rt, E.bk, E.ct⟩ s ⟨fun ρ n σ H q s' => h2 ρ n q σ H vs E s' k, k.rt, k.bk, k.ct⟩
theorem GS.mono {D D' : Es} (h : GS c ρ n ds t D) (h1 : ∀ ρ n, D.nx ρ n → D'.nx ρ n) (h2 : ∀ i n, D.rt i n → D'.rt i n) (h3 : ∀ ρ n, D.bk ρ n → D'.bk ρ n) (h4 : ∀ ρ n, D.ct ρ n → D'.ct ρ n) : GS c ρ n ds t D' := fun σ H vs E s k =>
  h σ H vs E s ⟨fun ρ n σ H q => k.nx ρ n σ H (h1 _ _ q), fun i n v H q => k.rt i n v H (h2 _ _ q), fun ρ n σ H q => k.bk ρ n σ H (h3 _ _ q), fun ρ n σ H q => k.ct ρ n σ H (h4 _ _ q)⟩
theorem next_ (h : nx ρ n) : GS c ρ n ds tNext ⟨nx, rt, bk, ct⟩ := fun σ H vs E s k => k.nx ρ n σ H h s
theorem brk_ (h : bk ρ n) : GS c ρ n ds tBreak ⟨nx, rt, bk, ct⟩ := fun σ H vs E s k => k.bk ρ n σ H h s
theorem cont_ (h : ct ρ n) : GS c ρ n ds tCont ⟨nx, rt, bk, ct⟩ := fun σ H vs E s k => k.ct ρ n σ H h s
theorem asg_ (h : GE c ρ n ds te fun it ρ' n' => GG c ρ' n' ds g it nx) : GS c ρ n ds (tAsg te g) ⟨nx, rt, bk, ct⟩ := fun σ H vs E s k =>
  h σ H vs _ s fun it ρ' n' v H' q s' => q σ H' vs v _ s' fun ρ2 n2 σ2 H2 q2 s2 => k.nx _ _ _ _ q2 s2
theorem drop_ (h : GE c ρ n ds te fun _ ρ' n' => nx ρ' n') : GS c ρ n ds (tDrop te) ⟨nx, rt, bk, ct⟩ := fun σ H vs E s k =>
  h σ H vs _ s fun it ρ' n' v H' q s' => k.nx _ _ _ _ q s'.pop
theorem ifS_ (h : GT c ρ n ds cc fun b ρ' n' => if b = true then GS c ρ' n' ds t ⟨nx, rt, bk, ct⟩ else GS c ρ' n' ds u ⟨nx, rt, bk, ct⟩) : GS c ρ n ds (tIfS cc t u) ⟨nx, rt, bk, ct⟩ := fun σ H vs E s k =>
  h σ H vs _ s fun b ρ' n' H' q s' => by
    cases b with
    | true => rw [if_pos rfl] at q ⊢; exact q σ H' vs E s' k
    | false => rw [if_neg Bool.false_ne_true] at q ⊢; exact q σ H' vs E s' k
/-- what a return hands back -/
def fin (rt : I → Nat → Prop) (ρ : List S) (n : Nat) : I → Prop
  | .v d => rt (.v d) n
  | .o d => rt (.o d) n
  | .b i d => match ρ[i]? with
    | some (.ow _) => rt (.o d) n
    | some (.me _ _) => rt (.o d) n
    | _ => rt (.v d) n
theorem StX.kept0 {L B : List Addr} {σ : L2.St} {H : Hp} {vs : List V} (s : StX c L B ρ n ds σ H vs) : Mv (Mo c (L ++ B)) c.M0 H H := fun a o na h => ⟨fun z => na (.inl z), h⟩
theorem own_rt {L B : List Addr} {σ : L2.St} {H : Hp} {vs : List V} {a : Addr} {d : D} (s : StX c L B ρ n ds σ H vs) (ha : a ∈ L ++ B) (r : RO K c.g (Mo c (L ++ B)) H a d) : Rt c H (.ref a) (.o d) :=
  ⟨a, rfl, (s.fr a ha).2, (s.fr a ha).1, r.mv (fun b o nb ho => ⟨fun z => nb (z.elim .inl fun e => .inr (e ▸ ha)), ho⟩) fun _ h => h⟩
theorem ret_ (h : GE c ρ n ds te fun it ρ' n' => fin rt ρ' n' it) : GS c ρ n ds (tRet te) ⟨nx, rt, bk, ct⟩ := fun σ H vs E s k =>
  h σ H vs _ s fun it ρ' n' v H' q ⟨L, B, s⟩ => by
    have s0 := s
    cases hit : s.it with
    | cons a b =>
      cases a with
      | v r => exact k.rt _ _ _ _ q s.kp s.hat (r.mv s.kept0)
      | o r => exact k.rt _ _ _ _ q s.kp s.hat (own_rt s (List.mem_append_right _ (by simp)) r)
      | @b i w xs e r =>
        have sl := s.sl
        rcases r with r | r | ⟨a, r⟩
        · have q' : rt (.o xs) n' := by
            have q := q
            simp only [fin, r] at q
            exact q
          obtain ⟨L1, l, L2, x, e1, e2, e3, _⟩ := sl.at r
          rw [e] at e2; cases e2
          cases e3 with
          | ow h1 => exact k.rt _ _ _ _ q' s.kp s.hat (own_rt s (by rw [e1]; simp) h1)
        · have q' : rt (.v xs) n' := by
            have q := q
            simp only [fin, r] at q
            exact q
          obtain ⟨L1, l, L2, x, e1, e2, e3, _⟩ := sl.at r
          rw [e] at e2; cases e2
          cases e3 with
          | v r => exact k.rt _ _ _ _ q' s.kp s.hat (r.mv s.kept0)
        · have q' : rt (.o xs) n' := by
            have q := q
            simp only [fin, r] at q
            exact q
          obtain ⟨L1, l, L2, x, e1, e2, e3, _⟩ := sl.at r
          rw [e] at e2; cases e2
          cases e3 with
          | me h1 => exact k.rt _ _ _ _ q' s.kp s.hat (own_rt s (by rw [e1]; simp) h1)
theorem retN_ (h : rt (.v .non) n) : GS c ρ n ds tRetN ⟨nx, rt, bk, ct⟩ := fun σ H vs E ⟨L, B, s⟩ k => k.rt _ _ _ _ h s.kp s.hat .non
end
end

/-! ### a pending item made fast -/
def frz1 (ρ : List S) : I → List S
  | .b i d => match ρ[i]? with
    | some (.ow _) => ρ.set i (.v d)
    | some (.me _ _) => ρ.set i (.v d)
    | _ => ρ
  | _ => ρ
def frz : List I → List S → List S
  | [], ρ => ρ
  | it :: its, ρ => frz its (frz1 ρ it)
def fv (it : I) : I := .v it.val
section
variable {K : PySem.W.Frag} {c : Wd K} {L B : List Addr} {ρ : List S} {n : Nat} {ds : List I} {σ : L2.St} {H H' : Hp} {vs : List V} {v : V} {it : I} {p : Addr}
/-- items that look at slots -/
def isB : I → Bool
  | .b _ _ => true
  | _ => false
theorem IR.fr {g : Addr} {M : Addr → Prop} {i : Nat} {xs : D} (hi : ρ[i]? = some (.ow xs) ∨ ∃ a, ρ[i]? = some (.me a xs)) {it : I} {l : List Addr} {w : V} (h : IR K g M H ρ σ it l w) : IR K g M H (ρ.set i (.v xs)) σ it l w := by
  cases h with
  | v r => exact .v r
  | o r => exact .o r
  | @b j w ys e r =>
    refine .b e ?_
    by_cases z : i = j
    · subst z
      refine .inr (.inl ?_)
      have hl : i < ρ.length := hi.elim (fun h => (List.getElem?_eq_some_iff.mp h).1) fun ⟨_, h⟩ => (List.getElem?_eq_some_iff.mp h).1
      have e : ys = xs := by
        rcases hi with hi | ⟨a, hi⟩ <;> rw [hi] at r <;> rcases r with r | r | ⟨b, r⟩ <;> cases r <;> rfl
      rw [e, List.getElem?_set_self hl]
    · rw [List.getElem?_set_ne z]; exact r
theorem IRs.fr {g : Addr} {M : Addr → Prop} {i : Nat} {xs : D} (hi : ρ[i]? = some (.ow xs) ∨ ∃ a, ρ[i]? = some (.me a xs)) : ∀ {ds : List I} {l : List Addr} {w : List V}, IRs K g M H ρ σ ds l w → IRs K g M H (ρ.set i (.v xs)) σ ds l w
  | _, _, _, .nil => .nil
  | _, _, _, .cons a b => .cons (a.fr hi) (IRs.fr hi b)
/-- what slot i owns is made fast -/
theorem StX.fast {i : Nat} {xs : D} (s : StX c L B ρ n ds σ H vs) (hi : ρ[i]? = some (.ow xs) ∨ ∃ a, ρ[i]? = some (.me a xs)) : ∃ L', StX c L' B (ρ.set i (.v xs)) n ds σ H vs := by
  obtain ⟨sl, it, nd, fr, kp, hat, mg, ml, md⟩ := s
  have hl0 : i < ρ.length := hi.elim (fun h => (List.getElem?_eq_some_iff.mp h).1) fun ⟨_, h⟩ => (List.getElem?_eq_some_iff.mp h).1
  obtain ⟨L1, l, L2, x, e1, e2, e3, e4⟩ := sl.at (s := ρ[i]) (List.getElem?_eq_getElem hl0)
  obtain ⟨a, rfl, rfl, ra⟩ : ∃ a, l = [a] ∧ x = some (.ref a) ∧ RO K c.g (Mo c (L ++ B)) H a xs := by
    rcases hi with hi | ⟨a, hi⟩
    · have e : ρ[i] = .ow xs := Option.some.inj ((List.getElem?_eq_getElem hl0).symm.trans hi)
      rw [e] at e3
      cases e3 with | ow r => exact ⟨_, rfl, rfl, r⟩
    · have e : ρ[i] = .me a xs := Option.some.inj ((List.getElem?_eq_getElem hl0).symm.trans hi)
      rw [e] at e3
      cases e3 with | me r => exact ⟨_, rfl, rfl, r⟩
  · subst e1
    have sub : ∀ b ∈ (L1 ++ ([] ++ L2)) ++ B, b ∈ (L1 ++ ([a] ++ L2)) ++ B := fun b hb => by
      simp only [List.mem_append, List.mem_singleton, List.nil_append] at hb ⊢
      rcases hb with (z | z) | z
      · exact .inl (.inl z)
      · exact .inl (.inr (.inr z))
      · exact .inr z
    have hna : a ∉ (L1 ++ ([] ++ L2)) ++ B := fun z => by
      have nd2 : ((L1 ++ ([a] ++ L2)) ++ B).Nodup := nd
      have e : (L1 ++ ([a] ++ L2)) ++ B = L1 ++ a :: (L2 ++ B) := by simp
      rw [e] at nd2
      have nd3 := (List.nodup_cons.mp ((List.perm_middle (a := a) (l₁ := L1) (l₂ := L2 ++ B)).nodup_iff.mp nd2)).1
      exact nd3 (by simpa [List.append_assoc] using z)
    have mv : Mv (Mo c ((L1 ++ ([a] ++ L2)) ++ B)) (Mo c ((L1 ++ ([] ++ L2)) ++ B)) H H := mv_less (mo_less sub)
    have nr : R K c.g (Mo c ((L1 ++ ([] ++ L2)) ++ B)) H (.ref a) xs := (ra.mv mv fun _ h => h).r (fun z => z.elim (fun z => (fr a (by simp)).1 z) hna)
    refine ⟨L1 ++ ([] ++ L2), ?_, (it.mv mv fun _ _ _ h => h).fr hi, ?_, fun b hb => fr b (sub b hb), kp, hat, mg, ml, md⟩
    · have sl2 := (e4 (s' := .un) (l' := []) (.un (some (V.ref a)))).mv mv (fun _ _ _ h => h)
      have hl := hl0
      obtain ⟨L1', l', L2', x', f1, f2, f3, f4⟩ := sl2.at (i := i) (s := .un) (by rw [List.getElem?_set_self hl])
      cases f3
      have := f4 (SR.v nr)
      rw [← f1, List.set_set, List.set_set] at this
      have hx : σ.set i (some (V.ref a)) = σ := by
        obtain ⟨h1, h2⟩ := List.getElem?_eq_some_iff.mp e2
        rw [← h2, List.set_getElem_self]
      rw [hx] at this
      exact this
    · exact nd.sublist (by
        refine List.Sublist.append ?_ (List.Sublist.refl B)
        exact (List.Sublist.refl L1).append (List.sublist_append_right [a] L2))
theorem StX.frz1 (s : StX c L B ρ n (it :: ds) σ H (v :: vs)) : ∃ L' B', StX c L' B' (HD.frz1 ρ it) n (.v it.val :: ds) σ H (v :: vs) := by
  cases it with
  | v d => exact ⟨L, B, s⟩
  | o xs =>
    obtain ⟨sl, it, nd, fr, kp, hat, mg, ml, md⟩ := s
    cases it with
    | cons a b =>
      rename_i B2
      cases a with
      | @o a _ ra =>
        have sub : ∀ b ∈ L ++ B2, b ∈ L ++ ([a] ++ B2) := fun b hb => by
          simp only [List.mem_append, List.mem_singleton] at hb ⊢
          rcases hb with z | z
          · exact .inl z
          · exact .inr (.inr z)
        have hna : a ∉ L ++ B2 := fun z => (List.nodup_cons.mp ((List.perm_middle (a := a) (l₁ := L) (l₂ := B2)).nodup_iff.mp nd)).1 z
        have mv : Mv (Mo c (L ++ ([a] ++ B2))) (Mo c (L ++ B2)) H H := mv_less (mo_less sub)
        have nr : R K c.g (Mo c (L ++ B2)) H (.ref a) xs := (ra.mv mv fun _ h => h).r (fun z => z.elim (fun z => (fr a (by simp)).1 z) hna)
        exact ⟨L, B2, sl.mv mv fun _ _ _ h => h, .cons (l := []) (.v nr) (b.mv mv fun _ _ _ h => h), nd.sublist ((List.Sublist.refl L).append (List.sublist_append_right [a] B2)), fun b hb => fr b (sub b hb), kp, hat, mg, ml, md⟩
  | b i xs =>
    cases hit : s.it with
    | cons a b =>
      cases a with
      | @b i w xs e r =>
        by_cases hr : ρ[i]? = some (.ow xs) ∨ ∃ a, ρ[i]? = some (.me a xs)
        · obtain ⟨L', s'⟩ := s.fast hr
          have e2 : HD.frz1 ρ (.b i xs) = ρ.set i (.v xs) := by
            rcases hr with r | ⟨a, r⟩ <;> simp only [HD.frz1, r]
          rw [e2]
          have hl : i < ρ.length := hr.elim (fun h => (List.getElem?_eq_some_iff.mp h).1) fun ⟨_, h⟩ => (List.getElem?_eq_some_iff.mp h).1
          obtain ⟨L1, l, L2, x, e1, e3, e4, _⟩ := s'.sl.at (i := i) (s := .v xs) (by rw [List.getElem?_set_self hl])
          rw [e] at e3; cases e3
          cases e4 with
          | v q =>
            cases s'.it with
            | cons a' b' =>
              cases a'
              refine ⟨L', _, s'.sl, .cons (l := []) (.v q) b', s'.nd, s'.fr, s'.kp, s'.hat, s'.mg, s'.ml, s'.md⟩
        · have r2 : ρ[i]? = some (.v xs) := by
            rcases r with r | r | r
            · exact absurd (.inl r) hr
            · exact r
            · exact absurd (.inr r) hr
          have e2 : HD.frz1 ρ (.b i xs) = ρ := by simp only [HD.frz1, r2]
          rw [e2]
          obtain ⟨L1, l, L2, x, e1, e3, e4, _⟩ := s.sl.at r2
          rw [e] at e3; cases e3
          cases e4 with
          | v q => exact ⟨L, _, s.sl, .cons (l := []) (.v q) b, s.nd, s.fr, s.kp, s.hat, s.mg, s.ml, s.md⟩
theorem St.frz1 (s : St c ρ n (it :: ds) σ H (v :: vs)) : St c (HD.frz1 ρ it) n (.v it.val :: ds) σ H (v :: vs) := by
  obtain ⟨L, B, s⟩ := s
  exact s.frz1
/-- the topmost item sinks to the second place -/
theorem St.rot {is : List I} {ws : List V} (hl : ws.length = is.length) (s : St c ρ n (it :: (is ++ ds)) σ H (v :: (ws ++ vs))) : St c ρ n (is ++ it :: ds) σ H (ws ++ v :: vs) := by
  obtain ⟨L, B, sl, it, nd, fr, kp, hat, mg, ml, md⟩ := s
  cases it with
  | @cons _ l _ _ B2 _ a b =>
    obtain ⟨L1, L2, v1, v2, e1, e2, e3, h1, h2⟩ := b.split
    have e4 : ws = v1 ∧ vs = v2 := List.append_inj e2 (by rw [hl, e3])
    obtain ⟨rfl, rfl⟩ := e4
    subst e1
    have p : (L ++ (l ++ (L1 ++ L2))).Perm (L ++ (L1 ++ (l ++ L2))) := List.Perm.append_left L (by
      rw [← List.append_assoc, ← List.append_assoc]
      exact List.Perm.append_right L2 List.perm_append_comm)
    have mv : Mv (Mo c (L ++ (l ++ (L1 ++ L2)))) (Mo c (L ++ (L1 ++ (l ++ L2)))) H H := mv_less (mo_less fun a ha => p.symm.mem_iff.mp ha)
    exact ⟨L, L1 ++ (l ++ L2), sl.mv mv fun _ _ _ h => h, (h1.mv mv fun _ _ _ h => h).join (.cons (a.mv mv fun _ _ _ h => h) (h2.mv mv fun _ _ _ h => h)), p.nodup_iff.mp nd, fun a ha => fr a (p.symm.mem_iff.mp ha), kp, hat, mg, ml, md⟩
theorem St.rot' {is : List I} {ws : List V} (hl : ws.length = is.length) (s : St c ρ n (is ++ it :: ds) σ H (ws ++ v :: vs)) : St c ρ n (it :: (is ++ ds)) σ H (v :: (ws ++ vs)) := by
  obtain ⟨L, B, sl, it, nd, fr, kp, hat, mg, ml, md⟩ := s
  obtain ⟨L1, L2, v1, v2, e1, e2, e3, h1, h2⟩ := it.split
  have e4 : ws = v1 ∧ v :: vs = v2 := List.append_inj e2 (by rw [hl, e3])
  obtain ⟨rfl, rfl⟩ := e4
  subst e1
  cases h2 with
  | @cons _ l _ _ B2 _ a b =>
    have p : (L ++ (l ++ (L1 ++ B2))).Perm (L ++ (L1 ++ (l ++ B2))) := List.Perm.append_left L (by
      rw [← List.append_assoc, ← List.append_assoc]
      exact List.Perm.append_right B2 List.perm_append_comm)
    have mv : Mv (Mo c (L ++ (L1 ++ (l ++ B2)))) (Mo c (L ++ (l ++ (L1 ++ B2)))) H H := mv_less (mo_less fun a ha => p.mem_iff.mp ha)
    exact ⟨L, l ++ (L1 ++ B2), sl.mv mv fun _ _ _ h => h, .cons (a.mv mv fun _ _ _ h => h) ((h1.mv mv fun _ _ _ h => h).join (b.mv mv fun _ _ _ h => h)), p.symm.nodup_iff.mp nd, fun a ha => fr a (p.mem_iff.mp ha), kp, hat, mg, ml, md⟩
theorem St.frzs : ∀ {is : List I} {ws : List V} {ρ : List S} {ds : List I} {vs : List V}, ws.length = is.length → St c ρ n (is ++ ds) σ H (ws ++ vs) → St c (frz is ρ) n (is.map fv ++ ds) σ H (ws ++ vs)
  | [], [], _, _, _, _, s => s
  | it :: is, w :: ws, ρ, ds, vs, hl, s => by
    have hl2 : ws.length = is.length := by simpa using hl
    have s1 : St c (HD.frz1 ρ it) n (fv it :: (is ++ ds)) σ H (w :: (ws ++ vs)) := St.frz1 s
    have s2 := St.rot hl2 s1
    have s3 := St.frzs (ds := fv it :: ds) (vs := w :: vs) hl2 s2
    exact St.rot' (by rw [List.length_map]; exact hl2) s3
theorem StX.vals : ∀ {is : List D} {ws : List V} {ds : List I} {vs : List V} {B : List Addr}, ws.length = is.length → IRs K c.g (Mo c L) H ρ σ (is.map I.v ++ ds) B (ws ++ vs) → RA K c.g (Mo c L) H ws is
  | [], [], _, _, _, _, _ => .nil
  | i :: is, w :: ws, _, _, _, hl, h => by
    cases h with
    | cons a b => cases a with | v r => exact .cons r (StX.vals (by simpa using hl) b)
end
end HD
/-! expressions, targets, calls -/
namespace HD
open PySem PySem.Spec PyProof.Rows L2 HX
section
variable {K : PySem.W.Frag} {c : Wd K} {ρ : List S} {n : Nat} {ds : List I} {Q : QI} {QA : List I → QS} {QB : Bool → QS} {QG : QS}
/-! ### names and constants -/
/-- what a name's slot gives -/
def rd (i : Nat) (Q : I → Prop) : Option S → Prop
  | some (.v d) => Q (.v d)
  | some (.ow d) => Q (.b i d)
  | some (.me _ d) => Q (.b i d)
  | _ => False
theorem varG_ {i : Nat} (h : rd i (fun it => Q it ρ n) ρ[i]?) : GE c ρ n ds (tVar i) Q := fun σ H vs F s k => by
  obtain ⟨L, B, s⟩ := s
  cases e : ρ[i]? with
  | none => rw [e] at h; exact h.elim
  | some x =>
    rw [e] at h
    obtain ⟨L1, l, L2, y, e1, e2, e3, _⟩ := s.sl.at e
    cases e3 with
    | un => exact h.elim
    | v r => exact ⟨_, e2, k _ _ _ _ _ h ⟨L, B, s.pushR r⟩⟩
    | ow ra => exact ⟨_, e2, k _ _ _ _ _ h ⟨L, B, s.sl, .cons (l := []) (.b e2 (.inl e)) s.it, s.nd, s.fr, s.kp, s.hat, s.mg, s.ml, s.md⟩⟩
    | me ra => exact ⟨_, e2, k _ _ _ _ _ h ⟨L, B, s.sl, .cons (l := []) (.b e2 (.inr (.inr ⟨_, e⟩))) s.it, s.nd, s.fr, s.kp, s.hat, s.mg, s.ml, s.md⟩⟩
theorem c_ {v : V} {d : D} (hs : sc v d) (h : Q (.v d) ρ n) : GE c ρ n ds (tC v) Q := fun σ H vs F s k => k _ _ _ _ _ h (s.pushS hs)
theorem cint_ {i : Int} (h : Q (.v (.int i)) ρ n) : GE c ρ n ds (tC (.int i)) Q := c_ (d := .int i) rfl h
theorem cbl_ {i : Bool} (h : Q (.v (.bl i)) ρ n) : GE c ρ n ds (tC (.bl i)) Q := c_ (d := .bl i) rfl h
theorem cstr_ {i : Str} (h : Q (.v (.str i)) ρ n) : GE c ρ n ds (tC (.str i)) Q := c_ (d := .str i) rfl h
theorem cnon_ (h : Q (.v .non) ρ n) : GE c ρ n ds (tC .non) Q := c_ (d := .non) True.intro h
theorem cty_ {i : String} (h : Q (.v (.ty i)) ρ n) : GE c ρ n ds (tC (.ty i)) Q := c_ (d := .ty i) rfl h
theorem cglo_ {a : Addr} (h : Q (.v (.glo a)) ρ n) : GE c ρ n ds (tC (.ref a)) Q := fun σ H vs F ⟨L, B, s⟩ k => k _ _ _ _ _ h ⟨L, B, s.pushR (.glo a)⟩
/-! ### operators -/
theorem op_ {r : R2} {ta tb : TE} (h : GE c ρ n ds ta fun ix ρ1 n1 => GE c ρ1 n1 (ix :: ds) tb fun iy ρ2 n2 => GO c ρ2 n2 ds r ix iy Q) : GE c ρ n ds (tOp r ta tb) Q := fun σ H vs F s k =>
  h σ H vs _ s fun ix ρ1 n1 x H1 q1 s1 => q1 σ H1 (x :: vs) _ s1 fun iy ρ2 n2 y H2 q2 s2 => q2 σ H2 vs x y F s2 k
theorem un_ {r : V → Hp → VK → Prop} {ta : TE} (h : GE c ρ n ds ta fun ix ρ1 n1 => GU c ρ1 n1 ds r ix Q) : GE c ρ n ds (tUn r ta) Q := fun σ H vs F s k =>
  h σ H vs _ s fun ix ρ1 n1 x H1 q1 s1 => q1 σ H1 vs x F s1 k
theorem cb_ {r : List V → Hp → VK → Prop} {t : TA} (h : GA c ρ n ds t fun its ρ1 n1 => GB c ρ1 n1 ds r its Q) : GE c ρ n ds (tCB r t) Q := fun σ H vs F s k =>
  h σ H vs _ s fun its ρ1 n1 xs H1 q1 hl s1 => q1 σ H1 vs xs F hl s1 k
/-! ### arguments -/
theorem nil_ (h : QA [] ρ n) : GA c ρ n ds tNil QA := fun σ H vs F s k => k [] ρ n [] H h rfl s
theorem cons_ {te : TE} {tr : TA} (h : GE c ρ n ds te fun it ρ1 n1 => GA c ρ1 n1 (it :: ds) tr fun its ρ2 n2 => QA (it :: its) ρ2 n2) : GA c ρ n ds (tCons te tr) QA := fun σ H vs F s k =>
  h σ H vs _ s fun it ρ1 n1 x H1 q1 s1 => q1 σ H1 (x :: vs) _ s1 fun its ρ2 n2 xs H2 q2 hl s2 => k (it :: its) ρ2 n2 (x :: xs) H2 q2 (by simp [hl]) (St.rot' hl s2)
/-! ### displays -/
theorem IRs.dropV {g : Addr} {M : Addr → Prop} {H : Hp} {ρ : List S} {σ : L2.St} : ∀ {es : List D} {ws : List V} {ds : List I} {vs : List V} {B : List Addr}, ws.length = es.length → IRs K g M H ρ σ (es.map I.v ++ ds) B (ws ++ vs) → IRs K g M H ρ σ ds B vs
  | [], [], _, _, _, _, h => h
  | e :: es, w :: ws, _, _, _, hl, h => by
    cases h with
    | cons a b => cases a with | v _ => exact IRs.dropV (by simpa using hl) b
theorem items {is : List I} {ws : List V} {σ : L2.St} {H : Hp} {vs : List V} (hl : ws.length = is.length) (s : St c ρ n (is ++ ds) σ H (ws ++ vs)) : ∃ L B, StX c L B (frz is ρ) n ds σ H vs ∧ RA K c.g (Mo c (L ++ B)) H ws (is.map I.val) := by
  have s1 := St.frzs hl s
  have em : is.map fv = (is.map I.val).map I.v := by rw [List.map_map]; rfl
  rw [em] at s1
  have main : ∀ {es : List D} {ws : List V}, ws.length = es.length → St c (frz is ρ) n (es.map I.v ++ ds) σ H (ws ++ vs) → ∃ L B, StX c L B (frz is ρ) n ds σ H vs ∧ RA K c.g (Mo c (L ++ B)) H ws es := by
    intro es
    induction es with
    | nil => intro ws hl s; cases ws with
      | nil => obtain ⟨L, B, s⟩ := s; exact ⟨L, B, s, .nil⟩
      | cons _ _ => cases hl
    | cons e es ih =>
      intro ws hl s
      cases ws with
      | nil => cases hl
      | cons w ws =>
        obtain ⟨L, B, s⟩ := s
        have s' := s
        cases hit : s.it with
        | cons a b =>
          cases a with
          | v r =>
            have s2 : StX c L _ (frz is ρ) n (es.map I.v ++ ds) σ H (ws ++ vs) := ⟨s.sl, b, s.nd, s.fr, s.kp, s.hat, s.mg, s.ml, s.md⟩
            have hl2 : ws.length = es.length := by simpa using hl
            -- the same owners all along
            have q := StX.vals (L := L ++ _) hl2 s2.it
            exact ⟨L, _, ⟨s2.sl, IRs.dropV hl2 s2.it, s2.nd, s2.fr, s2.kp, s2.hat, s2.mg, s2.ml, s2.md⟩, .cons r q⟩
  exact main (by rw [List.length_map]; exact hl) s1
theorem tup_ {t : TA} (h : GA c ρ n ds t fun its ρ1 n1 => Nat.ble its.length 100000 = true ∧ Q (.v (.tup (its.map I.val))) (frz its ρ1) n1) : GE c ρ n ds (tTup t) Q := fun σ H vs F s k =>
  h σ H vs _ s fun its ρ1 n1 xs H1 q1 hl s1 => by
    refine ⟨Nat.le_trans (by rw [hl]; exact Nat.le_of_ble_eq_true q1.1) (by decide), fun p hp => ?_⟩
    obtain ⟨L, B, s2, r⟩ := items hl s1
    exact k _ _ _ _ _ q1.2 ⟨L, B, s2.pushT hp r⟩
theorem lst_ {t : TA} (h : GA c ρ n ds t fun its ρ1 n1 => Nat.ble its.length 100000 = true ∧ Q (.o (.lst (its.map I.val))) (frz its ρ1) n1) : GE c ρ n ds (tLst t) Q := fun σ H vs F s k =>
  h σ H vs _ s fun its ρ1 n1 xs H1 q1 hl s1 => by
    refine ⟨Nat.le_trans (by rw [hl]; exact Nat.le_of_ble_eq_true q1.1) (by decide), fun p hp => ?_⟩
    obtain ⟨L, B, s2, r⟩ := items hl s1
    exact k _ _ _ _ _ q1.2 ⟨L, _, s2.pushO hp r⟩
/-! ### tests -/
theorem test_ {te : TE} (h : GE c ρ n ds te fun it ρ' n' => ∃ b, it = .v (.bl b) ∧ QB b ρ' n') : GT c ρ n ds (tTest te) QB := fun σ H vs F s k =>
  h σ H vs _ s fun it ρ' n' v H' ⟨b, e, q⟩ s' => by
    subst e
    obtain ⟨L, B, s'⟩ := s'
    cases s'.val
    exact ⟨b, rfl, k _ _ _ _ q (St.pop ⟨L, B, s'⟩)⟩
theorem b_ {te : TE} (h : GE c ρ n ds te fun it ρ' n' => ∃ b, it = .v (.bl b) ∧ QB b ρ' n') : GT c ρ n ds (tB te) QB := test_ h
theorem and_ {t u : TT} (h : GT c ρ n ds t fun b ρ' n' => if b = true then GT c ρ' n' ds u QB else QB false ρ' n') : GT c ρ n ds (tAnd t u) QB := fun σ H vs F s k =>
  h σ H vs _ s fun b ρ' n' H' q s' => by
    cases b with
    | true => rw [if_pos rfl] at q ⊢; exact q σ H' vs F s' k
    | false => rw [if_neg Bool.false_ne_true] at q ⊢; exact k _ _ _ _ q s'
theorem or_ {t u : TT} (h : GT c ρ n ds t fun b ρ' n' => if b = true then QB true ρ' n' else GT c ρ' n' ds u QB) : GT c ρ n ds (tOr t u) QB := fun σ H vs F s k =>
  h σ H vs _ s fun b ρ' n' H' q s' => by
    cases b with
    | true => rw [if_pos rfl] at q ⊢; exact k _ _ _ _ q s'
    | false => rw [if_neg Bool.false_ne_true] at q ⊢; exact q σ H' vs F s' k
theorem not_ {t : TT} (h : GT c ρ n ds t fun b ρ' n' => QB (!b) ρ' n') : GT c ρ n ds (tNot t) QB := fun σ H vs F s k => h σ H vs _ s fun b ρ' n' H' q s' => k _ _ _ _ q s'
theorem yes_ (h : QB true ρ n) : GT c ρ n ds tYes QB := fun σ H vs F s k => k _ _ _ _ h s
theorem andV_ {ta tb : TE} (h : GE c ρ n ds ta fun it ρ' n' => ∃ b, it = .v (.bl b) ∧ if b = true then GE c ρ' n' ds tb Q else Q (.v (.bl false)) ρ' n') : GE c ρ n ds (tAndV ta tb) Q := fun σ H vs F s k =>
  h σ H vs _ s fun it ρ' n' v H' ⟨b, e, q⟩ s' => by
    subst e
    obtain ⟨L, B, s'⟩ := s'
    cases s'.val
    have s2 := St.pop ⟨L, B, s'⟩
    refine ⟨b, rfl, ?_⟩
    cases b with
    | true => rw [if_pos rfl] at q ⊢; exact q σ H' vs F s2 k
    | false => rw [if_neg Bool.false_ne_true] at q ⊢; exact k _ _ _ _ _ q (s2.pushS rfl)
theorem orV_ {ta tb : TE} (h : GE c ρ n ds ta fun it ρ' n' => ∃ b, it = .v (.bl b) ∧ if b = true then Q (.v (.bl true)) ρ' n' else GE c ρ' n' ds tb Q) : GE c ρ n ds (tOrV ta tb) Q := fun σ H vs F s k =>
  h σ H vs _ s fun it ρ' n' v H' ⟨b, e, q⟩ s' => by
    subst e
    obtain ⟨L, B, s'⟩ := s'
    cases s'.val
    have s2 := St.pop ⟨L, B, s'⟩
    refine ⟨b, rfl, ?_⟩
    cases b with
    | true => rw [if_pos rfl] at q ⊢; exact k _ _ _ _ _ q (s2.pushS rfl)
    | false => rw [if_neg Bool.false_ne_true] at q ⊢; exact q σ H' vs F s2 k
theorem notV_ {ta : TE} (h : GE c ρ n ds ta fun it ρ' n' => ∃ b, it = .v (.bl b) ∧ Q (.v (.bl (!b))) ρ' n') : GE c ρ n ds (tNotV ta) Q := fun σ H vs F s k =>
  h σ H vs _ s fun it ρ' n' v H' ⟨b, e, q⟩ s' => by
    subst e
    obtain ⟨L, B, s'⟩ := s'
    cases s'.val
    exact ⟨b, rfl, k _ _ _ _ _ q ((St.pop ⟨L, B, s'⟩).pushS rfl)⟩
theorem if_ {t : TT} {ta tb : TE} (h : GT c ρ n ds t fun b ρ' n' => if b = true then GE c ρ' n' ds ta Q else GE c ρ' n' ds tb Q) : GE c ρ n ds (tIf t ta tb) Q := fun σ H vs F s k =>
  h σ H vs _ s fun b ρ' n' H' q s' => by
    cases b with
    | true => rw [if_pos rfl] at q ⊢; exact q σ H' vs F s' k
    | false => rw [if_neg Bool.false_ne_true] at q ⊢; exact q σ H' vs F s' k
/-! ### targets -/
def clean (ds : List I) : Bool := ds.all fun i => !isB i
theorem IRs.clean {g : Addr} {M : Addr → Prop} {H : Hp} {σ σ' : L2.St} {ρ ρ' : List S} : ∀ {ds : List I} {l : List Addr} {w : List V}, clean ds = true → IRs K g M H ρ σ ds l w → IRs K g M H ρ' σ' ds l w
  | _, _, _, _, .nil => .nil
  | _, _, _, k, .cons a b => by
    simp only [HD.clean, List.all_cons, Bool.and_eq_true] at k
    refine .cons ?_ (IRs.clean k.2 b)
    cases a with
    | v r => exact .v r
    | o r => exact .o r
    | b _ _ => cases k.1
/-- what is stored in a slot -/
def put (i : Nat) (ρ : List S) : I → List S
  | .v d => ρ.set i (.v d)
  | .o d => ρ.set i (.ow d)
  | .b j d => (frz1 ρ (.b j d)).set i (.v d)
theorem StX.setV {L B : List Addr} {σ : L2.St} {H : Hp} {vs : List V} {v : V} {d : D} {i : Nat} (hc : clean ds = true) (hi : i < ρ.length) (s : StX c L B ρ n (.v d :: ds) σ H (v :: vs)) : ∃ L', StX c L' B (ρ.set i (.v d)) n ds (σ.set i (some v)) H vs := by
  have hv := s.val
  obtain ⟨sl, it, nd, fr, kp, hat, mg, ml, md⟩ := s
  cases it with
  | @cons _ l0 _ _ B2 _ a b =>
    cases a
    obtain ⟨L1, l, L2, x, e1, e2, e3, e4⟩ := sl.at (i := i) (s := ρ[i]) (List.getElem?_eq_getElem hi)
    subst e1
    have sub : ∀ b ∈ (L1 ++ ([] ++ L2)) ++ ([] ++ B2), b ∈ (L1 ++ (l ++ L2)) ++ ([] ++ B2) := fun b hb => by
      simp only [List.mem_append, List.nil_append] at hb ⊢
      rcases hb with (z | z) | z
      · exact .inl (.inl z)
      · exact .inl (.inr (.inr z))
      · exact .inr z
    have mv : Mv (Mo c ((L1 ++ (l ++ L2)) ++ ([] ++ B2))) (Mo c ((L1 ++ ([] ++ L2)) ++ ([] ++ B2))) H H := mv_less (mo_less sub)
    refine ⟨L1 ++ ([] ++ L2), (e4 (.v hv)).mv mv fun _ _ _ h => h, (b.mv mv fun _ _ _ h => h).clean hc, ?_, fun b hb => fr b (sub b hb), kp, hat, mg, ml, md⟩
    refine nd.sublist (List.Sublist.append ?_ (List.Sublist.refl _))
    exact (List.Sublist.refl L1).append (List.sublist_append_right l L2)
theorem StX.setO {L B : List Addr} {σ : L2.St} {H : Hp} {vs : List V} {v : V} {xs : D} {i : Nat} (hc : clean ds = true) (hi : i < ρ.length) (s : StX c L B ρ n (.o xs :: ds) σ H (v :: vs)) : ∃ L' B', StX c L' B' (ρ.set i (.ow xs)) n ds (σ.set i (some v)) H vs := by
  obtain ⟨sl, it, nd, fr, kp, hat, mg, ml, md⟩ := s
  cases it with
  | @cons _ l0 _ _ B2 _ a b =>
    cases a with
    | @o a _ ra =>
    obtain ⟨L1, l, L2, x, e1, e2, e3, e4⟩ := sl.at (i := i) (s := ρ[i]) (List.getElem?_eq_getElem hi)
    subst e1
    have sub : ∀ b ∈ (L1 ++ ([a] ++ L2)) ++ B2, b ∈ (L1 ++ (l ++ L2)) ++ ([a] ++ B2) := fun b hb => by
      simp only [List.mem_append, List.mem_singleton] at hb ⊢
      rcases hb with (z | z | z) | z
      · exact .inl (.inl z)
      · exact .inr (.inl z)
      · exact .inl (.inr (.inr z))
      · exact .inr (.inr z)
    have mv : Mv (Mo c ((L1 ++ (l ++ L2)) ++ ([a] ++ B2))) (Mo c ((L1 ++ ([a] ++ L2)) ++ B2)) H H := mv_less (mo_less sub)
    refine ⟨L1 ++ ([a] ++ L2), B2, (e4 (.ow ra)).mv mv fun _ _ _ h => h, (b.mv mv fun _ _ _ h => h).clean hc, ?_, fun b hb => fr b (sub b hb), kp, hat, mg, ml, md⟩
    have n1 : ((L1 ++ L2) ++ (a :: B2)).Nodup := nd.sublist (List.Sublist.append ((List.Sublist.refl L1).append (List.sublist_append_right l L2)) (List.Sublist.refl _))
    have p : ((L1 ++ ([a] ++ L2)) ++ B2).Perm ((L1 ++ L2) ++ (a :: B2)) := by
      have p1 : ((L1 ++ ([a] ++ L2)) ++ B2).Perm (a :: ((L1 ++ L2) ++ B2)) := by
        rw [show L1 ++ ([a] ++ L2) = L1 ++ a :: L2 from rfl, List.append_assoc, List.append_assoc]
        exact List.perm_middle
      exact p1.trans List.perm_middle.symm
    exact p.nodup_iff.mpr n1
theorem gname_ {i : Nat} {it : I} (hc : clean ds = true) (hi : Nat.blt i ρ.length = true) (h : QG (put i ρ it) n) : GG c ρ n ds (gName i) it QG := fun σ H vs v F s k => by
  have hi : i < ρ.length := Nat.le_of_ble_eq_true hi
  cases it with
  | v d =>
    obtain ⟨L, B, s⟩ := s
    obtain ⟨L', s⟩ := s.setV hc hi
    exact k _ _ _ _ h ⟨L', B, s⟩
  | o xs =>
    obtain ⟨L, B, s⟩ := s
    obtain ⟨L', B', s⟩ := s.setO hc hi
    exact k _ _ _ _ h ⟨L', B', s⟩
  | b j xs =>
    obtain ⟨L, B, s⟩ := s.frz1
    have hi2 : i < (frz1 ρ (.b j xs)).length := by
      unfold frz1
      dsimp only
      split
      · rw [List.length_set]; exact hi
      · rw [List.length_set]; exact hi
      · exact hi
    obtain ⟨L', s⟩ := s.setV hc hi2
    exact k _ _ _ _ h ⟨L', B, s⟩
theorem gnil_ (h : QG ρ n) : GGs c ρ n ds gNil [] QG := fun σ H vs xs F hl s k => by
  cases xs with
  | nil => exact ⟨rfl, k _ _ _ _ h s⟩
  | cons _ _ => cases hl
theorem gcons_ {g : TG} {gs : TGs} {it : I} {its : List I} (h : GG c ρ n (its ++ ds) g it fun ρ1 n1 => GGs c ρ1 n1 ds gs its QG) : GGs c ρ n ds (gCons g gs) (it :: its) QG := fun σ H vs xs F hl s k => by
  cases xs with
  | nil => cases hl
  | cons x xs =>
    refine ⟨x, xs, rfl, ?_⟩
    exact h σ H (xs ++ vs) x _ s fun ρ1 n1 σ1 H1 q s1 => q σ1 H1 vs xs F (by simpa using hl) s1 k
theorem St.elems {σ : L2.St} {H : Hp} {vs : List V} {L B : List Addr} : ∀ {ws : List V} {xs : List D}, StX c L B ρ n ds σ H vs → RA K c.g (Mo c (L ++ B)) H ws xs → StX c L B ρ n (xs.map I.v ++ ds) σ H (ws ++ vs)
  | _, _, s, .nil => s
  | _, _, s, .cons a b => (St.elems s b).pushR a
theorem gtup_ {m : Nat} {gs : TGs} {xs : List D} (hl : xs.length = m) (h : GGs c ρ n ds gs (xs.map I.v) QG) : GG c ρ n ds (gTup K m gs) (.v (.tup xs)) QG := fun σ H vs v F ⟨L, B, s⟩ k => by
  cases s.val with
  | @tup a ws _ hs ra =>
    obtain ⟨B', s2⟩ := s.pop
    have s0 : St c ρ n ds σ H vs := St.pop ⟨L, B, s⟩
    refine ⟨a, ws, rfl, hs.sqt, by rw [ra.len, hl], ?_⟩
    have s3 : StX c L B ρ n ds σ H vs := by
      cases hit : s.it with
      | cons a b => cases a; exact ⟨s.sl, b, s.nd, s.fr, s.kp, s.hat, s.mg, s.ml, s.md⟩
    exact h σ H vs ws F (by rw [ra.len, List.length_map]) ⟨L, B, St.elems s3 ra⟩ k
theorem StX.lsp {σ : L2.St} {H : Hp} {vs : List V} {v : V} {L B : List Addr} {it : I} {xs : List D} (s : StX c L B ρ n (it :: ds) σ H (v :: vs)) (e : it.val = .lst xs) : ∃ a ws B', v = .ref a ∧ H a = some (.lst ws) ∧ StX c L B' ρ n ds σ H vs ∧ RA K c.g (Mo c (L ++ B')) H ws xs := by
  obtain ⟨a, ws, e1, e2, e3⟩ := s.ls e
  cases hit : s.it with
  | @cons _ l _ _ B2 _ x b =>
    have sub : ∀ b ∈ L ++ B2, b ∈ L ++ (l ++ B2) := fun b hb => by
      simp only [List.mem_append] at hb ⊢
      rcases hb with z | z
      · exact .inl z
      · exact .inr (.inr z)
    have mv : Mv (Mo c (L ++ (l ++ B2))) (Mo c (L ++ B2)) H H := mv_less (mo_less sub)
    exact ⟨a, ws, B2, e1, e2, ⟨s.sl.mv mv fun _ _ _ h => h, b.mv mv fun _ _ _ h => h, s.nd.sublist ((List.Sublist.refl L).append (List.sublist_append_right l B2)), fun b hb => s.fr b (sub b hb), s.kp, s.hat, s.mg, s.ml, s.md⟩, e3.mv mv⟩
theorem gunl_ {m : Nat} {gs : TGs} {it : I} {xs : List D} (e : it.val = .lst xs) (hl : xs.length = m) (h : GGs c ρ n ds gs (xs.map I.v) QG) : GG c ρ n ds (gUnl K m gs) it QG := fun σ H vs v F ⟨L, B, s⟩ k => by
  obtain ⟨a, ws, B', e1, e2, s2, ra⟩ := s.lsp e
  exact ⟨a, ws, e1, SqL.of e2, by rw [ra.len, hl], h σ H vs ws F (by rw [ra.len, List.length_map]) ⟨L, B', St.elems s2 ra⟩ k⟩
theorem par_ {i j : Nat} {ta : TA} {nx bk ct : QS} {rt : I → Nat → Prop} (h : GA c ρ n ds ta fun its ρ' n' => ∃ a b, its = [a, b] ∧ GG c ρ' n' (b :: ds) (gName i) a fun ρ2 n2 => GG c ρ2 n2 ds (gName j) b nx) : GS c ρ n ds (tPar i j ta) ⟨nx, rt, bk, ct⟩ := fun σ H vs E s k =>
  h σ H vs _ s fun its ρ' n' xs H' ⟨a, b, e, q⟩ hl s' => by
    subst e
    match xs, hl with
    | [x, y], _ => exact ⟨x, y, rfl, q σ H' (y :: vs) x (fun σ1 H1 => E.nx (σ1.set j (some y)) H1) s' fun ρ2 n2 σ2 H2 q2 s2 => q2 σ2 H2 vs y E.nx s2 fun ρ3 n3 σ3 H3 q3 s3 => k.nx _ _ _ _ q3 s3⟩
theorem par3_ {i j l : Nat} {ta : TA} {nx bk ct : QS} {rt : I → Nat → Prop} (h : GA c ρ n ds ta fun its ρ' n' => ∃ a b d, its = [a, b, d] ∧ GG c ρ' n' (b :: d :: ds) (gName i) a fun ρ2 n2 => GG c ρ2 n2 (d :: ds) (gName j) b fun ρ3 n3 => GG c ρ3 n3 ds (gName l) d nx) : GS c ρ n ds (tPar3 i j l ta) ⟨nx, rt, bk, ct⟩ := fun σ H vs E s k =>
  h σ H vs _ s fun its ρ' n' xs H' ⟨a, b, d, e, q⟩ hl s' => by
    subst e
    match xs, hl with
    | [x, y, z], _ => exact ⟨x, y, z, rfl, q σ H' (y :: z :: vs) x (fun σ1 H1 => E.nx ((σ1.set j (some y)).set l (some z)) H1) s' fun ρ2 n2 σ2 H2 q2 s2 => q2 σ2 H2 (z :: vs) y (fun σ1 H1 => E.nx (σ1.set l (some z)) H1) s2 fun ρ3 n3 σ3 H3 q3 s3 => q3 σ3 H3 vs z E.nx s3 fun ρ4 n4 σ4 H4 q4 s4 => k.nx _ _ _ _ q4 s4⟩
/-! ### calls of defs -/
abbrev XD := Addr → Option (List (Str × D)) → Nat → Prop
abbrev SpD := List D → Nat → (I → Nat → Prop) → XD → Prop
def XR (c : Wd K) (H : Hp) : Option Addr → Option (List (Str × D)) → Prop
  | none, none => True
  | some d, some fs => ∃ fv, ¬ c.M0 d ∧ H d = some (.xd fv) ∧ RF K c.g c.M0 H fv fs
  | _, _ => False
structure CallOk (c : Wd K) (H : Hp) (n : Nat) (vs : List V) (ds : List D) (Q : VK) (E : XK) (Qd : I → Nat → Prop) (Ed : XD) : Prop where
  h0 : c.H0 = H
  hat : Hat H c.g c.k c.ns n
  mg : c.M0 c.g
  ml : c.M0 c.k
  md : ∀ a, c.M0 a → ∃ o, H a = some o
  ra : RA K c.g c.M0 H vs ds
  q : ∀ it n' v H', Qd it n' → Kept c.g H H' → Hat H' c.g c.k c.ns n' → Rt c H' v it → Q v H'
  e : ∀ C fs n' x H', Ed C fs n' → Kept c.g H H' → Hat H' c.g c.k c.ns n' → XR c H' x fs → E (.ref C) x H'
def lift (K : PySem.W.Frag) (sp : SpD) : Sp := fun vs H Q E => ∃ (c : Wd K) (n : Nat) (ds : List D) (Qd : I → Nat → Prop) (Ed : XD), CallOk c H n vs ds Q E Qd Ed ∧ sp ds n Qd Ed
theorem enter {H : Hp} {vs : List V} {ds : List D} {Q : VK} {E : XK} {Qd : I → Nat → Prop} {Ed : XD} {t : TS} {N : List Str} (k : CallOk c H n vs ds Q E Qd Ed) (e : ds.map S.v ++ List.replicate (N.length - ds.length) S.un = ρ)
    (h : GS c ρ n [] t ⟨fun _ n' => Qd (.v .non) n', Qd, fun _ _ => False, fun _ _ => False⟩) : t { nx := fun _ H' => Q .non H', rt := Q } (L2.start N vs) H := by
  have hl := k.ra.len
  refine h (L2.start N vs) H [] _ ⟨[], [], ?_, .nil, .nil, fun a h => (by cases h), ?_, k.hat, k.mg, k.ml, fun a h => (by rw [k.h0]; exact k.md a h)⟩ ⟨fun ρ n σ H q ⟨L, B, s⟩ => ?_, fun it n v H q k1 k2 k3 => ?_, fun _ _ _ _ q => q.elim, fun _ _ _ _ q => q.elim⟩
  · rw [← e]
    unfold L2.start
    rw [hl]
    have m : Mo c (([] : List Addr) ++ []) = c.M0 := by
      funext a
      exact propext ⟨fun z => z.elim id (fun z => by cases z), .inl⟩
    rw [m]
    have ra := k.ra
    clear k e h hl
    have un : ∀ m : Nat, SRs K c.g c.M0 H (List.replicate m S.un) [] (List.replicate m none) := fun m => by
      induction m with
      | zero => exact .nil
      | succ m ih => exact .cons (l := []) (.un _) ih
    generalize N.length - ds.length = m
    have go : ∀ {vs : List V} {ds : List D}, RA K c.g c.M0 H vs ds → SRs K c.g c.M0 H (ds.map S.v ++ List.replicate m S.un) [] (vs.map some ++ List.replicate m none) := by
      intro vs ds ra
      induction ds generalizing vs with
      | nil => cases ra; exact un m
      | cons d ds ih => cases ra with | cons a b => exact .cons (l := []) (.v a) (ih b)
    exact go ra
  · rw [k.h0]; exact Kept.refl _ _
  · exact k.q _ _ _ _ q (by have := s.kp; rw [k.h0] at this; exact this) s.hat .non
  · exact k.q _ _ _ _ q (by rw [k.h0] at k1; exact k1) k2 k3
theorem call_ {sp : SpD} {t : TA} (h : GA c ρ n ds t fun its ρ' n' => sp (its.map I.val) n' (fun it n2 => Q it (frz its ρ') n2) fun _ _ _ => False) : GE c ρ n ds (tCall (lift K sp) [] E0 t) Q := fun σ H vs F s k =>
  h σ H vs _ s fun its ρ' n' xs H' q hl s' => by
    obtain ⟨L, B, s2, ra⟩ := items hl s'
    rw [List.append_nil]
    refine ⟨⟨c.g, c.k, c.ns, Mo c (L ++ B), H'⟩, n', _, _, _, ⟨rfl, s2.hat, .inl s2.mg, .inl s2.ml, s2.at, ra, fun it m v H2 q2 k2 h2 r2 => ?_, fun C fs n' x H' z => z.elim⟩, q⟩
    have s3 := s2.kept k2 h2
    cases it with
    | v d => exact k _ _ _ _ _ q2 ⟨L, B, s3.pushR r2⟩
    | b _ _ => exact r2.elim
    | o ys =>
      obtain ⟨p, rfl, hp, np, rr⟩ := r2
      have hp : H' p = none := hp
      have np : ¬ Mo c (L ++ B) p := np
      have npl : p ∉ L ++ B := fun z => np (.inr z)
      have hc : c.H0 p = none := by
        cases z : c.H0 p with
        | none => rfl
        | some o =>
          have : p ≠ c.g := fun e => np (.inl (e ▸ s2.mg))
          have := s2.kp _ _ this z
          rw [hp] at this; cases this
      have mv : Mv (Mo c (L ++ B)) (Mo c (L ++ ([p] ++ B))) H' H2 := fun a o na ho => by
        have ng : a ≠ c.g := fun e => na (.inl (e ▸ s2.mg))
        refine ⟨fun z => ?_, k2 a o ng ho⟩
        rcases z with z | z
        · exact na (.inl z)
        · simp only [List.mem_append, List.mem_singleton] at z
          rcases z with z | z | z
          · exact na (.inr (List.mem_append_left _ z))
          · rw [z, hp] at ho; cases ho
          · exact na (.inr (List.mem_append_right _ z))
      have hk : ∀ a ∈ L ++ B, ∀ o, H' a = some o → H2 a = some o := fun a ha o ho => k2 a o (fun z => (s2.fr a ha).1 (z ▸ s2.mg)) ho
      refine k _ _ _ _ _ q2 ⟨L, [p] ++ B, s2.sl.mv mv fun a ha => hk a (List.mem_append_left _ ha), .cons (l := [p]) (.o (rr.mv (mv_less fun a ha => ?_) fun _ h => h)) (s2.it.mv mv fun a ha => hk a (List.mem_append_right _ ha)), ?_, fun a ha => ?_, s3.kp, s3.hat, s3.mg, s3.ml, s3.md⟩
      · rcases ha with ha | ha
        · exact .inl (.inl ha)
        · simp only [List.mem_append, List.mem_singleton] at ha
          rcases ha with z | z | z
          · exact .inl (.inr (List.mem_append_left _ z))
          · exact .inr z
          · exact .inl (.inr (List.mem_append_right _ z))
      · exact (List.perm_middle (a := p) (l₁ := L) (l₂ := B)).nodup_iff.mpr (List.nodup_cons.mpr ⟨npl, s2.nd⟩)
      · simp only [List.mem_append, List.mem_singleton] at ha
        rcases ha with z | z | z
        · exact s2.fr a (List.mem_append_left _ z)
        · rw [z]; exact ⟨fun q => np (.inl q), hc⟩
        · exact s2.fr a (List.mem_append_right _ z)
end
end HD
/-! loops and comprehensions -/
namespace HD
open PySem PySem.Spec PyProof.Rows L2 HX
section
variable {K : PySem.W.Frag} {c : Wd K} {ρ : List S} {n : Nat} {ds : List I} {L B : List Addr} {σ : L2.St} {H H' : Hp} {vs : List V} {v : V} {p : Addr}
theorem IRs.mid {g : Addr} {M : Addr → Prop} {it : I} : ∀ {ex : List I} {ews : List V} {ds : List I} {vs : List V} {B : List Addr} {w : V}, ews.length = ex.length → IRs K g M H ρ σ (ex ++ it :: ds) B (ews ++ w :: vs) → ∃ l, IR K g M H ρ σ it l w
  | [], [], _, _, _, _, _, h => by cases h with | cons a b => exact ⟨_, a⟩
  | e :: ex, w :: ws, _, _, _, _, hl, h => by cases h with | cons a b => exact IRs.mid (by simpa using hl) b
theorem StX.peek {ex : List I} {ews : List V} {d : D} {w : V} (hl : ews.length = ex.length) (s : StX c L B ρ n (ex ++ .v d :: ds) σ H (ews ++ w :: vs)) : R K c.g (Mo c (L ++ B)) H w d := by
  obtain ⟨l, h⟩ := s.it.mid hl
  cases h with | v r => exact r
theorem mv_own {l : List Addr} {a : Addr} {o : HO} (ha : a ∈ l) : Mv (Mo c l) (Mo c l) H (upd H a o) := fun b u nb hb => ⟨nb, by
  have : b ≠ a := fun e => nb (.inr (by rw [e]; exact ha))
  rw [upd_ne this]; exact hb⟩
/-- the topmost item is a thing of nobody's: it is changed -/
theorem StX.wrO {d : D} (s : StX c L B ρ n (.o d :: ds) σ H (v :: vs)) : ∃ a, v = .ref a ∧ RO K c.g (Mo c (L ++ B)) H a d ∧ ∀ {t : D} {o : HO}, (Mv (Mo c (L ++ B)) (Mo c (L ++ B)) H (upd H a o) → RO K c.g (Mo c (L ++ B)) (upd H a o) a t) → StX c L B ρ n (.o t :: ds) σ (upd H a o) (v :: vs) := by
  cases hit : s.it with
  | @cons _ l _ _ B2 _ x b =>
    cases x with
    | @o a _ ra =>
      refine ⟨a, rfl, ra, fun {t o} r => ?_⟩
      have hm : a ∈ L ++ ([a] ++ B2) := by simp
      have mv : Mv (Mo c (L ++ ([a] ++ B2))) (Mo c (L ++ ([a] ++ B2))) H (upd H a o) := mv_own hm
      have nd := (List.nodup_cons.mp ((List.perm_middle (a := a) (l₁ := L) (l₂ := B2)).nodup_iff.mp s.nd)).1
      have hk : ∀ b ∈ L ++ B2, ∀ u, H b = some u → (upd H a o) b = some u := fun b hb u ho => by
        have : b ≠ a := fun e => nd (by rw [← e]; exact hb)
        rw [upd_ne this]; exact ho
      have hag : a ≠ c.g := fun e => (s.fr a hm).1 (e ▸ s.mg)
      have hak : a ≠ c.k := fun e => (s.fr a hm).1 (e ▸ s.ml)
      refine ⟨s.sl.mv mv fun b hb => hk b (List.mem_append_left _ hb), .cons (l := [a]) (.o (r mv)) (b.mv mv fun b hb => hk b (List.mem_append_right _ hb)), s.nd, s.fr, ?_, s.hat.upd hag hak, s.mg, s.ml, s.md⟩
      exact fun b u nb hb => by
        have : b ≠ a := fun e => by have := (s.fr a hm).2; rw [← e, hb] at this; cases this
        rw [upd_ne this]
        exact s.kp b u nb hb
/-- what slot i owns is changed -/
theorem StX.wrS {i : Nat} {d : D} (hc : clean ds = true) (s : StX c L B ρ n ds σ H vs) (hi : ρ[i]? = some (.ow d)) : ∃ a, σ[i]? = some (some (.ref a)) ∧ RO K c.g (Mo c (L ++ B)) H a d ∧ ∀ {t : D} {o : HO}, (Mv (Mo c (L ++ B)) (Mo c (L ++ B)) H (upd H a o) → RO K c.g (Mo c (L ++ B)) (upd H a o) a t) → StX c L B (ρ.set i (.ow t)) n ds σ (upd H a o) vs := by
  have hl : i < ρ.length := (List.getElem?_eq_some_iff.mp hi).1
  obtain ⟨L1, l, L2, x, e1, e2, e3, e4⟩ := s.sl.atM hi
  cases e3 with
  | @ow a _ ra =>
    subst e1
    refine ⟨a, e2, ra, fun {t o} r => ?_⟩
    have hm : a ∈ (L1 ++ ([a] ++ L2)) ++ B := by simp
    have mv : Mv (Mo c ((L1 ++ ([a] ++ L2)) ++ B)) (Mo c ((L1 ++ ([a] ++ L2)) ++ B)) H (upd H a o) := mv_own hm
    have pm : ((L1 ++ ([a] ++ L2)) ++ B).Perm (a :: ((L1 ++ L2) ++ B)) := by
      rw [show L1 ++ ([a] ++ L2) = L1 ++ a :: L2 from rfl, List.append_assoc, List.append_assoc]
      exact List.perm_middle
    have nd := (List.nodup_cons.mp (pm.nodup_iff.mp s.nd)).1
    have hk : ∀ b ∈ (L1 ++ L2) ++ B, ∀ u, H b = some u → (upd H a o) b = some u := fun b hb u ho => by
      have : b ≠ a := fun e => nd (by rw [← e]; exact hb)
      rw [upd_ne this]; exact ho
    have hag : a ≠ c.g := fun e => (s.fr a hm).1 (e ▸ s.mg)
    have hak : a ≠ c.k := fun e => (s.fr a hm).1 (e ▸ s.ml)
    have sl1 := e4 (l' := [a]) mv (fun b hb => hk b (List.mem_append_left _ hb)) (SR.ow (r mv))
    rw [show σ.set i (some (V.ref a)) = σ by
      obtain ⟨h1, h2⟩ := List.getElem?_eq_some_iff.mp e2
      rw [← h2, List.set_getElem_self]] at sl1
    refine ⟨sl1, (s.it.mv mv fun b hb => hk b (List.mem_append_right _ hb)).clean hc, s.nd, s.fr, ?_, s.hat.upd hag hak, s.mg, s.ml, s.md⟩
    exact fun b u nb hb => by
      have : b ≠ a := fun e => by have := (s.fr a hm).2; rw [← e, hb] at this; cases this
      rw [upd_ne this]
      exact s.kp b u nb hb
/-- the object itself is changed -/
theorem StX.wrM {i : Nat} {a : Addr} {d : D} (hc : clean ds = true) (s : StX c L B ρ n ds σ H vs) (hi : ρ[i]? = some (.me a d)) : σ[i]? = some (some (.ref a)) ∧ RO K c.g (Mo c (L ++ B)) H a d ∧ ∀ {t : D} {o : HO}, (Mv (Mo c (L ++ B)) (Mo c (L ++ B)) H (upd H a o) → RO K c.g (Mo c (L ++ B)) (upd H a o) a t) → StX c L B (ρ.set i (.me a t)) n ds σ (upd H a o) vs := by
  have hl : i < ρ.length := (List.getElem?_eq_some_iff.mp hi).1
  obtain ⟨L1, l, L2, x, e1, e2, e3, e4⟩ := s.sl.atM hi
  cases e3 with
  | me ra =>
    subst e1
    refine ⟨e2, ra, fun {t o} r => ?_⟩
    have hm : a ∈ (L1 ++ ([a] ++ L2)) ++ B := by simp
    have mv : Mv (Mo c ((L1 ++ ([a] ++ L2)) ++ B)) (Mo c ((L1 ++ ([a] ++ L2)) ++ B)) H (upd H a o) := mv_own hm
    have pm : ((L1 ++ ([a] ++ L2)) ++ B).Perm (a :: ((L1 ++ L2) ++ B)) := by
      rw [show L1 ++ ([a] ++ L2) = L1 ++ a :: L2 from rfl, List.append_assoc, List.append_assoc]
      exact List.perm_middle
    have nd := (List.nodup_cons.mp (pm.nodup_iff.mp s.nd)).1
    have hk : ∀ b ∈ (L1 ++ L2) ++ B, ∀ u, H b = some u → (upd H a o) b = some u := fun b hb u ho => by
      have : b ≠ a := fun e => nd (by rw [← e]; exact hb)
      rw [upd_ne this]; exact ho
    have hag : a ≠ c.g := fun e => (s.fr a hm).1 (e ▸ s.mg)
    have hak : a ≠ c.k := fun e => (s.fr a hm).1 (e ▸ s.ml)
    have sl1 := e4 (l' := [a]) mv (fun b hb => hk b (List.mem_append_left _ hb)) (SR.me (r mv))
    rw [show σ.set i (some (V.ref a)) = σ by
      obtain ⟨h1, h2⟩ := List.getElem?_eq_some_iff.mp e2
      rw [← h2, List.set_getElem_self]] at sl1
    refine ⟨sl1, (s.it.mv mv fun b hb => hk b (List.mem_append_right _ hb)).clean hc, s.nd, s.fr, ?_, s.hat.upd hag hak, s.mg, s.ml, s.md⟩
    exact fun b u nb hb => by
      have : b ≠ a := fun e => by have := (s.fr a hm).2; rw [← e, hb] at this; cases this
      rw [upd_ne this]
      exact s.kp b u nb hb
/-- what a walk yields while the pinned items stand -/
structure Wk (c : Wd K) (pin : List I) (ds : List I) (ws vs : List V) (J : It) (xs : List D) : Prop where
  go : ∀ (i : Nat) (ρ : List S) (n : Nat) (ex : List I) (σ : L2.St) (H : Hp) (ews : List V), i < xs.length → ews.length = ex.length → St c ρ n (ex ++ (pin ++ ds)) σ H (ews ++ (ws ++ vs)) → J.go i H
  yl : ∀ (i : Nat) (d : D) (ρ : List S) (n : Nat) (ex : List I) (σ : L2.St) (H : Hp) (ews : List V) (x : V) (H' : Hp), xs[i]? = some d → ews.length = ex.length → St c ρ n (ex ++ (pin ++ ds)) σ H (ews ++ (ws ++ vs)) → J.yld i H x H' → St c ρ n (.v d :: (ex ++ (pin ++ ds))) σ H' (x :: (ews ++ (ws ++ vs)))
  st : ∀ (ρ : List S) (n : Nat) (ex : List I) (σ : L2.St) (H : Hp) (ews : List V), ews.length = ex.length → St c ρ n (ex ++ (pin ++ ds)) σ H (ews ++ (ws ++ vs)) → J.stop xs.length H
def GI (c : Wd K) (ρ : List S) (n : Nat) (ds : List I) (wi : TI) (Q : List I → List D → QS) : Prop :=
  ∀ σ H vs (F : It → Hp → Prop), St c ρ n ds σ H vs → (∀ pin xs ρ' n' ws J H', Q pin xs ρ' n' → ws.length = pin.length → St c ρ' n' (pin ++ ds) σ H' (ws ++ vs) → (∀ ds vs, Wk c pin ds ws vs J xs) → F J H') → wi σ H F
theorem St.pops {ex : List I} {ews : List V} (hl : ews.length = ex.length) (s : St c ρ n (ex ++ ds) σ H (ews ++ vs)) : St c ρ n ds σ H vs := by
  induction ex generalizing ews with
  | nil => cases ews with
    | nil => exact s
    | cons _ _ => cases hl
  | cons e ex ih => cases ews with
    | nil => cases hl
    | cons w ews => exact ih (by simpa using hl) (St.pop s)
def ForD (c : Wd K) (ds : List I) (g : TG) (tb : TS) (Z : Es) : List D → QS
  | [] => Z.nx
  | x :: xs => fun ρ n => GG c ρ n ds g (.v x) fun ρ1 n1 => GS c ρ1 n1 ds tb ⟨ForD c ds g tb Z xs, Z.rt, Z.nx, ForD c ds g tb Z xs⟩
theorem for_ {wi : TI} {g : TG} {tb : TS} {nx bk ct : QS} {rt : I → Nat → Prop} (h : GI c ρ n ds wi fun pin xs ρ' n' => ForD c (pin ++ ds) g tb ⟨nx, rt, bk, ct⟩ xs ρ' n') : GS c ρ n ds (tFor wi g tb) ⟨nx, rt, bk, ct⟩ := fun σ H vs E s k =>
  h σ H vs _ s fun pin xs ρ' n' ws J H' q hl s' w => by
    have w := w ds vs
    refine ⟨fun i m σ H => m = xs.length - i ∧ i ≤ xs.length ∧ ∃ ρ n, ForD c (pin ++ ds) g tb ⟨nx, rt, bk, ct⟩ (xs.drop i) ρ n ∧ St c ρ n (pin ++ ds) σ H (ws ++ vs), ⟨xs.length, rfl, Nat.zero_le _, ρ', n', q, s'⟩, ?_⟩
    rintro i m σ H ⟨rfl, hi, ρ, n, f, s⟩
    by_cases hlt : i < xs.length
    · refine .inr ⟨w.go i ρ n [] σ H [] hlt rfl s, fun σ H => ∃ ρ n, ForD c (pin ++ ds) g tb ⟨nx, rt, bk, ct⟩ (xs.drop (i + 1)) ρ n ∧ St c ρ n (pin ++ ds) σ H (ws ++ vs), fun σ' H' ⟨ρ, n, f, s⟩ => ⟨_, by omega, rfl, hlt, ρ, n, f, s⟩, fun x H' y => ?_⟩
      have s2 := w.yl i xs[i] ρ n [] σ H [] x H' (List.getElem?_eq_getElem hlt) rfl s y
      rw [List.drop_eq_getElem_cons hlt] at f
      refine f σ H' (ws ++ vs) x _ s2 fun ρ1 n1 σ1 H1 q1 s1 => q1 σ1 H1 (ws ++ vs) _ s1 ⟨fun ρ n σ H q s => ⟨ρ, n, q, s⟩, k.rt, fun ρ n σ H q s => k.nx _ _ _ _ q (St.pops hl s), fun ρ n σ H q s => ⟨ρ, n, q, s⟩⟩
    · have e : i = xs.length := by omega
      subst e
      rw [List.drop_length] at f
      exact .inl ⟨w.st ρ n [] σ H [] rfl s, k.nx _ _ _ _ f (St.pops hl s)⟩
/-- a loop by its invariant -/
theorem ForD.inv {g : TG} {tb : TS} {Z : Es} {xs : List D} (P : Nat → QS) (h0 : P 0 ρ n) (hs : ∀ i x ρ n, xs[i]? = some x → i < xs.length → P i ρ n → GG c ρ n ds g (.v x) fun ρ1 n1 => GS c ρ1 n1 ds tb ⟨P (i + 1), Z.rt, Z.nx, P (i + 1)⟩) (hd : ∀ ρ n, P xs.length ρ n → Z.nx ρ n) : ForD c ds g tb Z xs ρ n := by
  have go : ∀ (k : Nat) (ρ : List S) (n : Nat), k ≤ xs.length → P k ρ n → ForD c ds g tb Z (xs.drop k) ρ n := by
    intro k
    generalize hm : xs.length - k = m
    induction m generalizing k with
    | zero =>
      intro ρ n hk p
      have : k = xs.length := by omega
      subst this
      rw [List.drop_length]
      exact hd _ _ p
    | succ m ih =>
      intro ρ n hk p
      have hlt : k < xs.length := by omega
      rw [List.drop_eq_getElem_cons hlt]
      intro σ H vs v F s kk
      refine hs k xs[k] ρ n (List.getElem?_eq_getElem hlt) hlt p σ H vs v F s fun ρ1 n1 σ1 H1 q s1 => kk _ _ _ _ (q.mono (fun ρ n z => ih (k + 1) (by omega) ρ n hlt z) (fun _ _ z => z) (fun _ _ z => z) (fun ρ n z => ih (k + 1) (by omega) ρ n hlt z)) s1
  exact go 0 ρ n (Nat.zero_le _) h0
theorem forN_ {g : TG} {tb : TS} {Z : Es} (h : Z.nx ρ n) : ForD c ds g tb Z [] ρ n := h
theorem forC_ {g : TG} {tb : TS} {Z : Es} {x : D} {xs : List D} (h : GG c ρ n ds g (.v x) fun ρ1 n1 => GS c ρ1 n1 ds tb ⟨ForD c ds g tb Z xs, Z.rt, Z.nx, ForD c ds g tb Z xs⟩) : ForD c ds g tb Z (x :: xs) ρ n := h
/-! ### what is walked -/
theorem ilst_ {te : TE} {Q : List I → List D → QS} (h : GE c ρ n ds te fun it ρ' n' => ∃ xs, it.val = .lst xs ∧ Q [.v (.lst xs)] xs (frz1 ρ' it) n') : GI c ρ n ds (iList K te) Q := fun σ H vs F s k =>
  h σ H vs _ s fun it ρ' n' v H' ⟨xs, e, q⟩ s' => by
    have s2 := s'.frz1
    rw [e] at s2
    obtain ⟨L, B, s3⟩ := s'
    obtain ⟨a, ws, rfl, ha, _⟩ := s3.ls e
    have main : ∀ {ds : List I} {vs : List V} {ρ : List S} {n : Nat} {ex : List I} {σ : L2.St} {H : Hp} {ews : List V}, ews.length = ex.length → St c ρ n (ex ++ ([.v (.lst xs)] ++ ds)) σ H (ews ++ ([.ref a] ++ vs)) → ∃ L B ws, StX c L B ρ n (ex ++ ([.v (.lst xs)] ++ ds)) σ H (ews ++ ([.ref a] ++ vs)) ∧ H a = some (.lst ws) ∧ RA K c.g (Mo c (L ++ B)) H ws xs := by
      intro ds vs ρ n ex σ H ews hl ⟨L, B, s⟩
      have := s.peek (d := .lst xs) (w := .ref a) hl
      cases this with
      | lst _ h r => exact ⟨L, B, _, s, h, r⟩
    refine ⟨a, rfl, ⟨ws, SqL.of ha⟩, k [.v (.lst xs)] xs _ n' [.ref a] _ H' q rfl s2 fun ds vs => ⟨?_, ?_, ?_⟩⟩
    · intro i ρ n ex σ H ews hi hl s
      obtain ⟨L, B, ws, s, ha, r⟩ := main hl s
      have hi2 : i < ws.length := by rw [r.len]; exact hi
      exact ⟨ws, ws[i], SqL.of ha, List.getElem?_eq_getElem hi2⟩
    · intro i d ρ n ex σ H ews x H' hd hl s ⟨eH, y⟩
      obtain ⟨L, B, ws, s, ha, r⟩ := main hl s
      subst eH
      obtain ⟨w, hw, rw'⟩ := r.at hd
      have := y ws (SqL.of ha)
      rw [hw] at this
      cases this
      exact ⟨L, B, s.pushR rw'⟩
    · intro ρ n ex σ H ews hl s
      obtain ⟨L, B, ws, s, ha, r⟩ := main hl s
      exact ⟨ws, SqL.of ha, by rw [r.len]; exact Nat.le_refl _⟩
theorem itup_ {te : TE} {Q : List I → List D → QS} (h : GE c ρ n ds te fun it ρ' n' => ∃ xs, it = .v (.tup xs) ∧ Q [.v (.tup xs)] xs ρ' n') : GI c ρ n ds (iTup K te) Q := fun σ H vs F s k =>
  h σ H vs _ s fun it ρ' n' v H' ⟨xs, e, q⟩ s' => by
    subst e
    have s2 := s'
    obtain ⟨L, B, s3⟩ := s'
    cases s3.val with
    | @tup a ws _ ha ra =>
    have main : ∀ {ds : List I} {vs : List V} {ρ : List S} {n : Nat} {ex : List I} {σ : L2.St} {H : Hp} {ews : List V}, ews.length = ex.length → St c ρ n (ex ++ ([.v (.tup xs)] ++ ds)) σ H (ews ++ ([.ref a] ++ vs)) → ∃ L B ws, StX c L B ρ n (ex ++ ([.v (.tup xs)] ++ ds)) σ H (ews ++ ([.ref a] ++ vs)) ∧ SqT K H a ws ∧ RA K c.g (Mo c (L ++ B)) H ws xs := by
      intro ds vs ρ n ex σ H ews hl ⟨L, B, s⟩
      have := s.peek (d := .tup xs) (w := .ref a) hl
      cases this with
      | tup h r => exact ⟨L, B, _, s, h.sqt, r⟩
    refine ⟨a, rfl, ⟨ws, ha.sqt⟩, k [.v (.tup xs)] xs _ n' [.ref a] _ H' q rfl s2 fun ds vs => ⟨?_, ?_, ?_⟩⟩
    · intro i ρ n ex σ H ews hi hl s
      obtain ⟨L, B, ws, s, ha, r⟩ := main hl s
      have hi2 : i < ws.length := by rw [r.len]; exact hi
      exact ⟨ws, ws[i], ha, List.getElem?_eq_getElem hi2⟩
    · intro i d ρ n ex σ H ews x H' hd hl s ⟨eH, y⟩
      obtain ⟨L, B, ws, s, ha, r⟩ := main hl s
      subst eH
      obtain ⟨w, hw, rw'⟩ := r.at hd
      have := y ws ha
      rw [hw] at this
      cases this
      exact ⟨L, B, s.pushR rw'⟩
    · intro ρ n ex σ H ews hl s
      obtain ⟨L, B, ws, s, ha, r⟩ := main hl s
      exact ⟨ws, ha, by rw [r.len]; exact Nat.le_refl _⟩
/-- lo, lo + 1, .. -/
def rngD (lo : Int) (m : Nat) : List D := (List.range m).map fun (i : Nat) => D.int (lo + (i : Int))
theorem rngD_len {lo : Int} {m : Nat} : (rngD lo m).length = m := by unfold rngD; rw [List.length_map, List.length_range]
theorem rngD_at {lo : Int} {m i : Nat} {d : D} (h : (rngD lo m)[i]? = some d) : i < m ∧ d = .int (lo + (i : Int)) := by
  unfold rngD at h
  rw [List.getElem?_map] at h
  have hi : i < m := by
    rcases Nat.lt_or_ge i m with z | z
    · exact z
    · rw [List.getElem?_eq_none (by simpa using z)] at h; cases h
  rw [List.getElem?_range hi] at h
  exact ⟨hi, (Option.some.inj h).symm⟩
theorem wk_range {lo : Int} {m : Nat} {vs : List V} : Wk c [] ds [] vs (Itr lo m) (rngD lo m) := by
  refine ⟨?_, ?_, ?_⟩
  · intro i ρ n ex σ H ews hi _ _
    rw [rngD_len] at hi; exact hi
  · intro i d ρ n ex σ H ews x H' hd hl s ⟨eH, y⟩
    obtain ⟨_, rfl⟩ := rngD_at hd
    subst eH y
    exact s.pushS rfl
  · intro ρ n ex σ H ews hl s
    rw [rngD_len]; exact Nat.le_refl _
theorem irng1_ {ta : TA} {Q : List I → List D → QS} (h : GA c ρ n ds ta fun its ρ' n' => ∃ i : Int, its = [.v (.int i)] ∧ (-(2 ^ 62) ≤ i ∧ i < 2 ^ 62) ∧ Q [] (rngD 0 i.toNat) ρ' n') : GI c ρ n ds (iRng1 ta) Q := fun σ H vs F s k =>
  h σ H vs _ s fun its ρ' n' xs H' ⟨i, e, hi, q⟩ hl s' => by
    subst e
    match xs, hl with
    | [x], _ =>
    obtain ⟨L, B, s'⟩ := s'
    cases (StX.val s')
    exact ⟨i, rfl, hi.1, hi.2, k [] _ _ _ [] _ _ q rfl (St.pop ⟨L, B, s'⟩) fun _ _ => wk_range⟩
theorem irng2_ {ta : TA} {Q : List I → List D → QS} (h : GA c ρ n ds ta fun its ρ' n' => ∃ i j : Int, its = [.v (.int i), .v (.int j)] ∧ (-(2 ^ 62) ≤ i ∧ i < 2 ^ 62 ∧ -(2 ^ 62) ≤ j ∧ j < 2 ^ 62) ∧ Q [] (rngD i (j - i).toNat) ρ' n') : GI c ρ n ds (iRng2 ta) Q := fun σ H vs F s k =>
  h σ H vs _ s fun its ρ' n' xs H' ⟨i, j, e, hi, q⟩ hl s' => by
    subst e
    match xs, hl with
    | [x, y], _ =>
    obtain ⟨L, B, s'⟩ := s'
    cases (StX.val s')
    have s2 := St.pop ⟨L, B, s'⟩
    obtain ⟨L, B, s2⟩ := s2
    cases (StX.val s2)
    exact ⟨i, j, rfl, hi, k [] _ _ _ [] _ _ q rfl (St.pop ⟨L, B, s2⟩) fun _ _ => wk_range⟩
end
end HD
/-! comprehensions -/
namespace HD
open PySem PySem.Spec PyProof.Rows L2 HX
def unset : List Nat → List S → List S
  | [], ρ => ρ
  | i :: is, ρ => (unset is ρ).set i .un
/-- no item looks at one of these slots -/
def cleanO (own : List Nat) (ds : List I) : Bool := ds.all fun i => match i with
  | .b j _ => !own.contains j
  | _ => true
section
variable {K : PySem.W.Frag} {c : Wd K} {ρ : List S} {n : Nat} {ds : List I} {L B : List Addr} {σ : L2.St} {H H' : Hp} {vs : List V} {v : V} {p : Addr}
theorem unset_len : ∀ (own : List Nat) (ρ : List S), (unset own ρ).length = ρ.length
  | [], _ => rfl
  | i :: is, ρ => by unfold unset; rw [List.length_set, unset_len is ρ]
theorem unset_at : ∀ {own : List Nat} {ρ : List S} {i : Nat}, i ∈ own → i < ρ.length → (unset own ρ)[i]? = some .un
  | [], _, _, h, _ => by cases h
  | j :: is, ρ, i, h, hl => by
    unfold unset
    by_cases e : j = i
    · subst e
      rw [List.getElem?_set_self (by rw [unset_len]; exact hl)]
    · rw [List.getElem?_set_ne e]
      refine unset_at ?_ hl
      rcases List.mem_cons.mp h with z | z
      · exact absurd z.symm e
      · exact z
theorem unset_ne : ∀ {own : List Nat} {ρ : List S} {i : Nat}, i ∉ own → (unset own ρ)[i]? = ρ[i]?
  | [], _, _, _ => rfl
  | j :: is, ρ, i, h => by
    unfold unset
    rw [List.getElem?_set_ne (fun e => h (by rw [e]; exact List.mem_cons_self))]
    exact unset_ne fun z => h (List.mem_cons_of_mem _ z)
theorem wipe_ne : ∀ {own : List Nat} {σ : L2.St} {i : Nat}, i ∉ own → (wipe σ own)[i]? = σ[i]?
  | [], _, _, _ => rfl
  | j :: is, σ, i, h => by
    unfold wipe
    rw [List.getElem?_set_ne (fun e => h (by rw [e]; exact List.mem_cons_self))]
    exact wipe_ne fun z => h (List.mem_cons_of_mem _ z)
theorem SRs.unset1 {g : Addr} {M : Addr → Prop} (i : Nat) (x : Option V) : ∀ {ρ : List S} {L : List Addr} {σ : L2.St}, SRs K g M H ρ L σ → ∃ L', L'.Sublist L ∧ SRs K g M H (ρ.set i .un) L' (σ.set i x) := fun {ρ L σ} h => by
  by_cases hi : i < ρ.length
  · obtain ⟨L1, l, L2, y, e1, e2, e3, e4⟩ := h.at (List.getElem?_eq_getElem hi)
    refine ⟨L1 ++ ([] ++ L2), ?_, e4 (l' := []) (.un x)⟩
    rw [e1]
    exact (List.Sublist.refl L1).append (List.sublist_append_right l L2)
  · have hl := h.len
    rw [List.set_eq_of_length_le (by omega), List.set_eq_of_length_le (by omega)]
    exact ⟨L, List.Sublist.refl _, h⟩
theorem SRs.unset {g : Addr} {M : Addr → Prop} : ∀ {own : List Nat} {ρ : List S} {L : List Addr} {σ : L2.St}, SRs K g M H ρ L σ → ∃ L', L'.Sublist L ∧ SRs K g M H (HD.unset own ρ) L' (wipe σ own)
  | [], _, L, _, h => ⟨L, List.Sublist.refl _, h⟩
  | i :: is, ρ, L, σ, h => by
    obtain ⟨L1, s1, h1⟩ := SRs.unset (own := is) h
    obtain ⟨L2, s2, h2⟩ := h1.unset1 i none
    exact ⟨L2, s2.trans s1, h2⟩
theorem SRs.re {g : Addr} {M : Addr → Prop} : ∀ {ρ : List S} {L : List Addr} {σ σ' : L2.St}, SRs K g M H ρ L σ → σ'.length = σ.length → (∀ i : Nat, σ'[i]? = σ[i]? ∨ ρ[i]? = some .un) → SRs K g M H ρ L σ'
  | _, _, _, [], .nil, _, _ => .nil
  | _, _, _, _ :: _, .nil, h, _ => by cases h
  | _, _, _, [], .cons _ _, h, _ => by cases h
  | _, _, _, y :: σ', .cons (s := s) (x := x) a b, hl, h => by
    have hb := SRs.re (σ' := σ') b (by simpa using hl) fun i => h (i + 1)
    rcases h 0 with z | z
    · have e : y = x := Option.some.inj (show some y = some x from z)
      rw [e]; exact .cons a hb
    · have e : s = S.un := Option.some.inj (show some s = some S.un from z)
      subst e
      cases a
      exact .cons (l := []) (.un y) hb
theorem IRs.cleanO {g : Addr} {M : Addr → Prop} {own : List Nat} {σ σ' : L2.St} {ρ ρ' : List S} (hσ : ∀ i, i ∉ own → σ'[i]? = σ[i]?) (hρ : ∀ i, i ∉ own → ρ'[i]? = ρ[i]?) : ∀ {ds : List I} {l : List Addr} {w : List V}, HD.cleanO own ds = true → IRs K g M H ρ σ ds l w → IRs K g M H ρ' σ' ds l w
  | _, _, _, _, .nil => .nil
  | _, _, _, k, .cons a b => by
    simp only [HD.cleanO, List.all_cons, Bool.and_eq_true] at k
    refine .cons ?_ (IRs.cleanO hσ hρ k.2 b)
    cases a with
    | v r => exact .v r
    | o r => exact .o r
    | @b i w xs e r =>
      have hi : i ∉ own := by simpa using k.1
      exact .b (by rw [hσ i hi]; exact e) (by rw [hρ i hi]; exact r)
theorem St.unset {own : List Nat} (hc : HD.cleanO own ds = true) (s : St c ρ n ds σ H vs) : St c (HD.unset own ρ) n ds (wipe σ own) H vs := by
  obtain ⟨L, B, s⟩ := s
  obtain ⟨L', sub, h⟩ := s.sl.unset (own := own)
  have hs : (L' ++ B).Sublist (L ++ B) := sub.append (List.Sublist.refl B)
  have mv : Mv (Mo c (L ++ B)) (Mo c (L' ++ B)) H H := mv_less (mo_less fun a ha => hs.mem ha)
  exact ⟨L', B, h.mv mv fun _ _ _ h => h, (s.it.mv mv fun _ _ _ h => h).cleanO (own := own) (fun i hi => wipe_ne hi) (fun i hi => unset_ne hi) hc, s.nd.sublist hs, fun a ha => s.fr a (hs.mem ha), s.kp, s.hat, s.mg, s.ml, s.md⟩
theorem wipe_len : ∀ (σ : L2.St) (own : List Nat), (wipe σ own).length = σ.length := wipe_length
/-- behind the block the slots are as they were -/
theorem St.back {own : List Nat} (hc : HD.cleanO own ds = true) (s : St c (HD.unset own ρ) n ds (wipe σ own) H vs) : St c (HD.unset own ρ) n ds σ H vs := by
  obtain ⟨L, B, s⟩ := s
  have hl : (HD.unset own ρ).length = σ.length := by rw [s.sl.len, wipe_len]
  refine ⟨L, B, s.sl.re (wipe_len σ own).symm fun i => ?_, s.it.cleanO (own := own) (fun i hi => (wipe_ne hi).symm) (fun _ _ => rfl) hc, s.nd, s.fr, s.kp, s.hat, s.mg, s.ml, s.md⟩
  by_cases hi : i ∈ own
  · by_cases h2 : i < ρ.length
    · exact .inr (unset_at hi h2)
    · refine .inl ?_
      rw [unset_len] at hl
      rw [List.getElem?_eq_none (by omega), List.getElem?_eq_none (by rw [wipe_len]; omega)]
  · exact .inl (wipe_ne hi).symm
/-- a target within a comprehension: no other slot changes -/
def GW (c : Wd K) (ρ : List S) (n : Nat) (ds : List I) (own : List Nat) (g : TG) (it : I) (Q : QS) : Prop :=
  ∀ σ H vs v (F : L2.St → Hp → Prop), St c ρ n (it :: ds) σ H (v :: vs) → (∀ ρ' n' σ' H', Q ρ' n' → wipe σ' own = wipe σ own → St c ρ' n' ds σ' H' vs → F σ' H') → g v σ H F
def GWs (c : Wd K) (ρ : List S) (n : Nat) (ds : List I) (own : List Nat) (g : TGs) (its : List I) (Q : QS) : Prop :=
  ∀ σ H vs xs (F : L2.St → Hp → Prop), xs.length = its.length → St c ρ n (its ++ ds) σ H (xs ++ vs) → (∀ ρ' n' σ' H', Q ρ' n' → wipe σ' own = wipe σ own → St c ρ' n' ds σ' H' vs → F σ' H') → g xs σ H F
theorem wipe_set : ∀ {own : List Nat} {σ : L2.St} {i : Nat} {x : Option V}, i ∈ own → wipe (σ.set i x) own = wipe σ own
  | [], _, _, _, h => by cases h
  | j :: is, σ, i, x, h => by
    unfold wipe
    by_cases e : i = j
    · subst e
      apply List.ext_getElem?
      intro m
      by_cases hm : i = m
      · subst hm
        by_cases hl : i < σ.length
        · rw [List.getElem?_set_self (by rw [wipe_len, List.length_set]; exact hl), List.getElem?_set_self (by rw [wipe_len]; exact hl)]
        · rw [List.getElem?_eq_none (by rw [List.length_set, wipe_len, List.length_set]; omega), List.getElem?_eq_none (by rw [List.length_set, wipe_len]; omega)]
      · rw [List.getElem?_set_ne hm, List.getElem?_set_ne hm]
        by_cases hi : m ∈ is
        · have : ∀ σ : L2.St, m < σ.length → (wipe σ is)[m]? = some none := by
            intro σ hl
            clear h
            induction is with
            | nil => cases hi
            | cons k is ih =>
              unfold wipe
              by_cases ek : k = m
              · subst ek; rw [List.getElem?_set_self (by rw [wipe_len]; exact hl)]
              · rw [List.getElem?_set_ne ek]
                refine ih ?_
                rcases List.mem_cons.mp hi with z | z
                · exact absurd z.symm ek
                · exact z
          by_cases hl : m < σ.length
          · rw [this σ hl, this _ (by rw [List.length_set]; exact hl)]
          · rw [List.getElem?_eq_none (by rw [wipe_len, List.length_set]; omega), List.getElem?_eq_none (by rw [wipe_len]; omega)]
        · rw [wipe_ne hi, wipe_ne hi, List.getElem?_set_ne hm]
    · rw [wipe_set (own := is) (by
        rcases List.mem_cons.mp h with z | z
        · exact absurd z e
        · exact z)]
theorem wname_ {own : List Nat} {i : Nat} {d : D} {QG : QS} (hc : clean ds = true) (hi : Nat.blt i ρ.length = true) (ho : own.contains i = true) (h : QG (ρ.set i (.v d)) n) : GW c ρ n ds own (gName i) (.v d) QG := fun σ H vs v F s k => by
  have hi : i < ρ.length := Nat.le_of_ble_eq_true hi
  obtain ⟨L, B, s⟩ := s
  obtain ⟨L', s⟩ := s.setV hc hi
  exact k _ _ _ _ h (wipe_set (by simpa using ho)) ⟨L', B, s⟩
theorem StX.setVO {own : List Nat} {L B : List Addr} {v : V} {d : D} {i : Nat} (hc : HD.cleanO own ds = true) (ho : i ∈ own) (hi : i < ρ.length) (s : StX c L B ρ n (.v d :: ds) σ H (v :: vs)) : ∃ L', StX c L' B (ρ.set i (.v d)) n ds (σ.set i (some v)) H vs := by
  have hv := s.val
  obtain ⟨sl, it, nd, fr, kp, hat, mg, ml, md⟩ := s
  cases it with
  | @cons _ l0 _ _ B2 _ a b =>
    cases a
    obtain ⟨L1, l, L2, x, e1, e2, e3, e4⟩ := sl.at (i := i) (s := ρ[i]) (List.getElem?_eq_getElem hi)
    subst e1
    have sub : ∀ b ∈ (L1 ++ ([] ++ L2)) ++ ([] ++ B2), b ∈ (L1 ++ (l ++ L2)) ++ ([] ++ B2) := fun b hb => by
      simp only [List.mem_append, List.nil_append] at hb ⊢
      rcases hb with (z | z) | z
      · exact .inl (.inl z)
      · exact .inl (.inr (.inr z))
      · exact .inr z
    have mv : Mv (Mo c ((L1 ++ (l ++ L2)) ++ ([] ++ B2))) (Mo c ((L1 ++ ([] ++ L2)) ++ ([] ++ B2))) H H := mv_less (mo_less sub)
    refine ⟨L1 ++ ([] ++ L2), (e4 (.v hv)).mv mv fun _ _ _ h => h, (b.mv mv fun _ _ _ h => h).cleanO (own := own) (fun j hj => List.getElem?_set_ne fun e => hj (by rw [← e]; exact ho)) (fun j hj => List.getElem?_set_ne fun e => hj (by rw [← e]; exact ho)) hc, ?_, fun b hb => fr b (sub b hb), kp, hat, mg, ml, md⟩
    refine nd.sublist (List.Sublist.append ?_ (List.Sublist.refl _))
    exact (List.Sublist.refl L1).append (List.sublist_append_right l L2)
theorem wnameO_ {own : List Nat} {i : Nat} {d : D} {QG : QS} (hc : HD.cleanO own ds = true) (hi : Nat.blt i ρ.length = true) (ho : own.contains i = true) (h : QG (ρ.set i (.v d)) n) : GW c ρ n ds own (gName i) (.v d) QG := fun σ H vs v F s k => by
  have hi : i < ρ.length := Nat.le_of_ble_eq_true hi
  obtain ⟨L, B, s⟩ := s
  obtain ⟨L', s⟩ := s.setVO hc (by simpa using ho) hi
  exact k _ _ _ _ h (wipe_set (by simpa using ho)) ⟨L', B, s⟩
theorem wnil_ {own : List Nat} {QG : QS} (h : QG ρ n) : GWs c ρ n ds own gNil [] QG := fun σ H vs xs F hl s k => by
  cases xs with
  | nil => exact ⟨rfl, k _ _ _ _ h rfl s⟩
  | cons _ _ => cases hl
theorem wcons_ {own : List Nat} {g : TG} {gs : TGs} {it : I} {its : List I} {QG : QS} (h : GW c ρ n (its ++ ds) own g it fun ρ1 n1 => GWs c ρ1 n1 ds own gs its QG) : GWs c ρ n ds own (gCons g gs) (it :: its) QG := fun σ H vs xs F hl s k => by
  cases xs with
  | nil => cases hl
  | cons x xs =>
    refine ⟨x, xs, rfl, ?_⟩
    exact h σ H (xs ++ vs) x _ s fun ρ1 n1 σ1 H1 q w1 s1 => q σ1 H1 vs xs F (by simpa using hl) s1 fun ρ2 n2 σ2 H2 q2 w2 s2 => k _ _ _ _ q2 (w2.trans w1) s2
theorem wtup_ {own : List Nat} {m : Nat} {gs : TGs} {xs : List D} {QG : QS} (hl : xs.length = m) (h : GWs c ρ n ds own gs (xs.map I.v) QG) : GW c ρ n ds own (gTup K m gs) (.v (.tup xs)) QG := fun σ H vs v F ⟨L, B, s⟩ k => by
  cases s.val with
  | @tup a ws _ hs ra =>
    refine ⟨a, ws, rfl, hs.sqt, by rw [ra.len, hl], ?_⟩
    have s3 : StX c L B ρ n ds σ H vs := by
      cases hit : s.it with
      | cons a b => cases a; exact ⟨s.sl, b, s.nd, s.fr, s.kp, s.hat, s.mg, s.ml, s.md⟩
    exact h σ H vs ws F (by rw [ra.len, List.length_map]) ⟨L, B, St.elems s3 ra⟩ k
def CpD (c : Wd K) (ds : List I) (own : List Nat) (g : TG) (tt : TT) (te : TE) (Q : List D → QS) : List D → List D → QS
  | [], ys => fun ρ n => Q ys ρ n
  | x :: xs, ys => fun ρ n => GW c ρ n (.o (.lst ys) :: ds) own g (.v x) fun ρ1 n1 => GT c ρ1 n1 (.o (.lst ys) :: ds) tt fun b ρ2 n2 =>
    if b = true then GE c ρ2 n2 (.o (.lst ys) :: ds) te fun it ρ3 n3 => Nat.ble ys.length 100000 = true ∧ CpD c ds own g tt te Q xs (ys ++ [it.val]) (unset own (frz1 ρ3 it)) n3
    else CpD c ds own g tt te Q xs ys (unset own ρ2) n2
/-- the topmost value is put behind the list below it -/
theorem St.acc {it : I} {ys : List D} {w : V} (s : St c ρ n (it :: .o (.lst ys) :: ds) σ H (v :: w :: vs)) : ∃ a acc, w = .ref a ∧ H a = some (.lst acc) ∧ acc.length = ys.length ∧ St c (HD.frz1 ρ it) n (.o (.lst (ys ++ [it.val])) :: ds) σ (upd H a (.lst (acc ++ [v]))) (w :: vs) := by
  obtain ⟨L, B, s⟩ := s.frz1
  have hv := s.val
  have s2 : StX c L B (HD.frz1 ρ it) n (.o (.lst ys) :: ds) σ H (w :: vs) := by
    cases hit : s.it with
    | cons a b => cases a; exact ⟨s.sl, b, s.nd, s.fr, s.kp, s.hat, s.mg, s.ml, s.md⟩
  obtain ⟨a, rfl, ⟨acc, h1, h2⟩, h3⟩ := s2.wrO
  exact ⟨a, acc, rfl, h1, h2.len, L, B, h3 fun m => ⟨_, upd_same, (h2.append (.cons hv .nil)).mv m⟩⟩
theorem lc_ {wi : TI} {g : TG} {tt : TT} {te : TE} {own : List Nat} {Q : QI} (h : GI c ρ n ds wi fun pin xs ρ' n' => cleanO own (pin ++ ds) = true ∧ CpD c (pin ++ ds) own g tt te (fun ys ρ2 n2 => Q (.o (.lst ys)) ρ2 n2) xs [] (HD.unset own ρ') n') : GE c ρ n ds (tLc wi g tt te own) Q := fun σ H vs F s k =>
  h σ H vs _ s fun pin xs ρ' n' ws J H' ⟨hc, q⟩ hl s' w => by
    have w := w ds vs
    intro D hD
    obtain ⟨L, B, s'⟩ := s'
    have s1 : St c ρ' n' (.o (.lst []) :: (pin ++ ds)) σ (upd H' D (.lst [])) (.ref D :: (ws ++ vs)) := ⟨L, _, s'.pushO hD .nil⟩
    have hc1 : ∀ ys, cleanO own (.o (.lst ys) :: (pin ++ ds)) = true := fun ys => by
      unfold cleanO
      rw [List.all_cons]
      exact hc
    have s2 := St.unset (hc1 []) s1
    refine ⟨fun i m H => m = xs.length - i ∧ i ≤ xs.length ∧ ∃ ys ρ0 n, CpD c (pin ++ ds) own g tt te (fun ys ρ2 n2 => Q (.o (.lst ys)) ρ2 n2) (xs.drop i) ys (HD.unset own ρ0) n ∧ St c (HD.unset own ρ0) n (.o (.lst ys) :: (pin ++ ds)) (wipe σ own) H (.ref D :: (ws ++ vs)), ⟨xs.length, rfl, Nat.zero_le _, [], ρ', n', q, s2⟩, ?_⟩
    rintro i m H ⟨rfl, hi, ys, ρ0, n, f, s⟩
    by_cases hlt : i < xs.length
    · refine .inr ⟨w.go i _ n [.o (.lst ys)] _ H [.ref D] hlt rfl s, fun H => ∃ ys ρ0 n, CpD c (pin ++ ds) own g tt te (fun ys ρ2 n2 => Q (.o (.lst ys)) ρ2 n2) (xs.drop (i + 1)) ys (HD.unset own ρ0) n ∧ St c (HD.unset own ρ0) n (.o (.lst ys) :: (pin ++ ds)) (wipe σ own) H (.ref D :: (ws ++ vs)), fun H' z => ⟨_, by omega, rfl, hlt, z⟩, fun x H' y => ?_⟩
      have s3 := w.yl i xs[i] _ n [.o (.lst ys)] _ H [.ref D] x H' (List.getElem?_eq_getElem hlt) rfl s y
      rw [List.drop_eq_getElem_cons hlt] at f
      refine f _ H' _ x _ s3 fun ρ1 n1 σ1 H1 q1 w1 s4 => ?_
      have w2 : wipe σ1 own = wipe σ own := by
        rw [w1]
        apply List.ext_getElem?
        intro m
        by_cases hm : m ∈ own
        · have z : ∀ {own : List Nat} {σ : L2.St}, m ∈ own → m < σ.length → (wipe σ own)[m]? = some none := by
            intro own σ hm hl
            induction own with
            | nil => cases hm
            | cons k is ih =>
              unfold wipe
              by_cases ek : k = m
              · subst ek; rw [List.getElem?_set_self (by rw [wipe_len]; exact hl)]
              · rw [List.getElem?_set_ne ek]
                refine ih ?_
                rcases List.mem_cons.mp hm with z | z
                · exact absurd z.symm ek
                · exact z
          by_cases hl : m < σ.length
          · rw [z hm (by rw [wipe_len]; exact hl), z hm hl]
          · rw [List.getElem?_eq_none (by rw [wipe_len, wipe_len]; omega), List.getElem?_eq_none (by rw [wipe_len]; omega)]
        · rw [wipe_ne hm]
      refine ⟨w2, q1 σ1 H1 _ _ s4 fun b ρ2 n2 H2 q2 s5 => ?_⟩
      cases b with
      | true =>
        rw [if_pos rfl] at q2 ⊢
        refine q2 σ1 H2 _ _ s5 fun it ρ3 n3 v3 H3 q3 s6 => ?_
        obtain ⟨a, acc, ea, h1, h2, s7⟩ := St.acc s6
        cases ea
        have hb := Nat.le_of_ble_eq_true q3.1
        refine ⟨acc, h1, Nat.lt_of_lt_of_le (show acc.length < 100001 by omega) (by decide), _, _, n3, q3.2, ?_⟩
        have s8 := St.unset (own := own) (hc1 _) s7
        rw [w2] at s8
        exact s8
      | false =>
        rw [if_neg Bool.false_ne_true] at q2 ⊢
        have s8 := St.unset (own := own) (hc1 _) s5
        rw [w2] at s8
        exact ⟨ys, ρ2, n2, q2, s8⟩
    · have e : i = xs.length := by omega
      subst e
      rw [List.drop_length] at f
      have s3 := St.back (hc1 _) s
      refine .inl ⟨w.st _ n [.o (.lst ys)] _ H [.ref D] rfl s, k _ _ _ _ _ f ?_⟩
      exact St.pops hl (St.rot hl s3)
theorem cpN_ {own : List Nat} {g : TG} {tt : TT} {te : TE} {Q : List D → QS} {ys : List D} (h : Q ys ρ n) : CpD c ds own g tt te Q [] ys ρ n := h
theorem cpC_ {own : List Nat} {g : TG} {tt : TT} {te : TE} {Q : List D → QS} {ys xs : List D} {x : D} (h : GW c ρ n (.o (.lst ys) :: ds) own g (.v x) fun ρ1 n1 => GT c ρ1 n1 (.o (.lst ys) :: ds) tt fun b ρ2 n2 =>
    if b = true then GE c ρ2 n2 (.o (.lst ys) :: ds) te fun it ρ3 n3 => Nat.ble ys.length 100000 = true ∧ CpD c ds own g tt te Q xs (ys ++ [it.val]) (HD.unset own (HD.frz1 ρ3 it)) n3
    else CpD c ds own g tt te Q xs ys (HD.unset own ρ2) n2) : CpD c ds own g tt te Q (x :: xs) ys ρ n := h
theorem GE.mono {t : TE} {Q Q' : QI} (h : GE c ρ n ds t Q) (m : ∀ it ρ n, Q it ρ n → Q' it ρ n) : GE c ρ n ds t Q' := fun σ H vs F s k => h σ H vs F s fun it ρ n v H q => k it ρ n v H (m _ _ _ q)
theorem GT.mono {t : TT} {Q Q' : Bool → QS} (h : GT c ρ n ds t Q) (m : ∀ it ρ n, Q it ρ n → Q' it ρ n) : GT c ρ n ds t Q' := fun σ H vs F s k => h σ H vs F s fun it ρ n H q => k it ρ n H (m _ _ _ q)
theorem GW.mono {own : List Nat} {g : TG} {it : I} {Q Q' : QS} (h : GW c ρ n ds own g it Q) (m : ∀ ρ n, Q ρ n → Q' ρ n) : GW c ρ n ds own g it Q' := fun σ H vs v F s k => h σ H vs v F s fun ρ n σ H q => k ρ n σ H (m _ _ q)
/-- a comprehension by its invariant -/
theorem CpD.inv {own : List Nat} {g : TG} {tt : TT} {te : TE} {Q : List D → QS} {xs : List D} (P : Nat → List D → QS) (h0 : P 0 [] ρ n)
    (hs : ∀ i x ys ρ n, xs[i]? = some x → i < xs.length → P i ys ρ n → GW c ρ n (.o (.lst ys) :: ds) own g (.v x) fun ρ1 n1 => GT c ρ1 n1 (.o (.lst ys) :: ds) tt fun b ρ2 n2 =>
      if b = true then GE c ρ2 n2 (.o (.lst ys) :: ds) te fun it ρ3 n3 => Nat.ble ys.length 100000 = true ∧ P (i + 1) (ys ++ [it.val]) (HD.unset own (HD.frz1 ρ3 it)) n3
      else P (i + 1) ys (HD.unset own ρ2) n2) (hd : ∀ ys ρ n, P xs.length ys ρ n → Q ys ρ n) : CpD c ds own g tt te Q xs [] ρ n := by
  have go : ∀ (k : Nat) (ys : List D) (ρ : List S) (n : Nat), k ≤ xs.length → P k ys ρ n → CpD c ds own g tt te Q (xs.drop k) ys ρ n := by
    intro k
    generalize hm : xs.length - k = m
    induction m generalizing k with
    | zero =>
      intro ys ρ n hk p
      have : k = xs.length := by omega
      subst this
      rw [List.drop_length]
      exact hd _ _ _ p
    | succ m ih =>
      intro ys ρ n hk p
      have hlt : k < xs.length := by omega
      rw [List.drop_eq_getElem_cons hlt]
      refine (hs k xs[k] ys ρ n (List.getElem?_eq_getElem hlt) hlt p).mono fun ρ1 n1 q => q.mono fun b ρ2 n2 q2 => ?_
      cases b with
      | true =>
        rw [if_pos rfl] at q2 ⊢
        exact q2.mono fun it ρ3 n3 q3 => ⟨q3.1, ih (k + 1) (by omega) _ _ _ hlt q3.2⟩
      | false =>
        rw [if_neg Bool.false_ne_true] at q2 ⊢
        exact ih (k + 1) (by omega) _ _ _ hlt q2
  exact go 0 [] ρ n (Nat.zero_le _) h0
end
end HD
/-! operators, built-ins, methods on data -/
namespace HD
open PySem PySem.Spec PyProof.Rows L2 HX
mutual
def D.py : D → PyData
  | .bl b => .bool b
  | .int i => .int i
  | .str x => .str x
  | .tup xs => .tuple (D.pys xs)
  | .lst xs => .list (D.pys xs)
  | _ => .none
def D.pys : List D → List PyData
  | [] => []
  | x :: xs => D.py x :: D.pys xs
end
mutual
/-- nothing but None, truths, integers, texts, lists, tuples -/
def D.dat : D → Bool
  | .non => true
  | .bl _ => true
  | .int _ => true
  | .str _ => true
  | .tup xs => D.dats xs
  | .lst xs => D.dats xs
  | _ => false
def D.dats : List D → Bool
  | [] => true
  | x :: xs => D.dat x && D.dats xs
end
/-- == of data -/
def D.eqv (d e : D) : Bool := PyData.eqv d.py e.py
def D.cmp (d e : D) : Prop := d.dat = true ∧ e.dat = true ∧ SeqAt.shaped d.py = true ∧ SeqAt.shaped e.py = true
def flatD : D → Bool
  | .non => true
  | .bl _ => true
  | .int _ => true
  | .str _ => true
  | _ => false
def eqF : D → D → Bool
  | .non, .non => true
  | .bl a, .bl b => a == b
  | .bl a, .int b => (if a then 1 else 0) == b
  | .int a, .bl b => a == (if b then 1 else 0)
  | .int a, .int b => a == b
  | .str a, .str b => a == b
  | _, _ => false
def inF (x : D) (xs : List D) : Bool := xs.any fun y => eqF y x
def cutD (xs : List D) (lo hi : Option Int) : List D := (xs.drop (HT.sIx xs.length 0 lo)).take (HT.sIx xs.length xs.length hi - HT.sIx xs.length 0 lo)
section
variable {K : PySem.W.Frag} {c : Wd K} {ρ : List S} {n : Nat} {ds : List I} {L B : List Addr} {σ : L2.St} {H H' : Hp} {vs : List V} {v : V} {p : Addr} {Q : QI} {g : Addr} {M : Addr → Prop}
mutual
theorem R.dp : ∀ {v : V} {d : D}, R K g M H v d → d.dat = true → Dp K H v d.py
  | _, _, .non, _ => by rw [D.py]; exact .non; all_goals (intros; contradiction)
  | _, _, .bl b, _ => by rw [D.py]; exact .bl b
  | _, _, .int b, _ => by rw [D.py]; exact .int b
  | _, _, .str b, _ => by rw [D.py]; exact .str b
  | _, _, .ty b, h => by simp [D.dat] at h
  | _, _, .glo b, h => by simp [D.dat] at h
  | _, _, .hat, h => by simp [D.dat] at h
  | _, _, .lst n e a, h => by rw [D.py]; rw [D.dat] at h; exact .lst (SqL.of e) (RA.dp a h)
  | _, _, .tup s a, h => by rw [D.py]; rw [D.dat] at h; exact .tup s.sqt (RA.dp a h)
  | _, _, .ins n e a, h => by simp [D.dat] at h
theorem RA.dp : ∀ {v : List V} {d : List D}, RA K g M H v d → D.dats d = true → DpAll K H v (D.pys d)
  | _, _, .nil, _ => by rw [D.pys]; exact .nil
  | _, _, .cons a b, h => by
    rw [D.pys]
    rw [D.dats, Bool.and_eq_true] at h
    exact .cons (R.dp a h.1) (RA.dp b h.2)
end
theorem IR.ls {it : I} {l : List Addr} {w : V} {xs : List D} (sl : SRs K g M H ρ L σ) (h : IR K g M H ρ σ it l w) (e : it.val = .lst xs) : ∃ a ws, w = .ref a ∧ H a = some (.lst ws) ∧ RA K g M H ws xs := by
  cases h with
  | v r => cases (show _ = D.lst xs from e); cases r with | lst n h q => exact ⟨_, _, rfl, h, q⟩
  | o h => cases (show _ = D.lst xs from e); obtain ⟨_, h, q⟩ := h; exact ⟨_, _, rfl, h, q⟩
  | @b i _ _ h q =>
    cases (show _ = D.lst xs from e)
    rcases q with q | q | ⟨_, q⟩
    · obtain ⟨_, _, _, x, _, e2, e3, _⟩ := sl.at q
      rw [h] at e2; cases e2
      cases e3 with | ow h2 => obtain ⟨_, h2, r⟩ := h2; exact ⟨_, _, rfl, h2, r⟩
    · obtain ⟨_, _, _, x, _, e2, e3, _⟩ := sl.at q
      rw [h] at e2; cases e2
      cases e3 with | v r => cases r with | lst n h2 r => exact ⟨_, _, rfl, h2, r⟩
    · obtain ⟨_, _, _, x, _, e2, e3, _⟩ := sl.at q
      rw [h] at e2; cases e2
      cases e3 with | me h2 => obtain ⟨_, h2, r⟩ := h2; exact ⟨_, _, rfl, h2, r⟩
theorem IRs.tl {it : I} {ds : List I} (h : IRs K g M H ρ σ (it :: ds) B (v :: vs)) : ∃ B', B'.Sublist B ∧ IRs K g M H ρ σ ds B' vs := by
  cases h with | @cons _ l _ _ B2 _ a b => exact ⟨B2, List.sublist_append_right l B2, b⟩
theorem StX.cutB {B' : List Addr} {ds' : List I} {vs' : List V} (s : StX c L B ρ n ds σ H vs) (hB : B'.Sublist B) (h : IRs K c.g (Mo c (L ++ B)) H ρ σ ds' B' vs') : StX c L B' ρ n ds' σ H vs' ∧ Mv (Mo c (L ++ B)) (Mo c (L ++ B')) H H := by
  have hs : (L ++ B').Sublist (L ++ B) := (List.Sublist.refl L).append hB
  have mv : Mv (Mo c (L ++ B)) (Mo c (L ++ B')) H H := mv_less (mo_less fun a ha => hs.mem ha)
  exact ⟨⟨s.sl.mv mv fun _ _ _ h => h, h.mv mv fun _ _ _ h => h, s.nd.sublist hs, fun a ha => s.fr a (hs.mem ha), s.kp, s.hat, s.mg, s.ml, s.md⟩, mv⟩
/-- two lists on top -/
theorem StX.ls2 {ix iy : I} {x y : V} {xs ys : List D} (s : StX c L B ρ n (iy :: ix :: ds) σ H (y :: x :: vs)) (ex : ix.val = .lst xs) (ey : iy.val = .lst ys) : ∃ a b ws us B', x = .ref a ∧ y = .ref b ∧ H a = some (.lst ws) ∧ H b = some (.lst us) ∧ StX c L B' ρ n ds σ H vs ∧ RA K c.g (Mo c (L ++ B')) H ws xs ∧ RA K c.g (Mo c (L ++ B')) H us ys := by
  obtain ⟨_, hy⟩ := IRs.mid (ex := []) (ews := []) rfl s.it
  obtain ⟨_, hx⟩ := IRs.mid (ex := [iy]) (ews := [y]) rfl s.it
  obtain ⟨b, us, rfl, hb, rb⟩ := hy.ls s.sl ey
  obtain ⟨a, ws, rfl, ha, ra⟩ := hx.ls s.sl ex
  obtain ⟨B1, h1, t1⟩ := s.it.tl
  obtain ⟨B2, h2, t2⟩ := t1.tl
  obtain ⟨s2, mv⟩ := s.cutB (h2.trans h1) t2
  exact ⟨a, b, ws, us, B2, rfl, rfl, ha, hb, s2, ra.mv mv, rb.mv mv⟩
/-- two items on top, as they are -/
theorem StX.it2 {ix iy : I} {x y : V} (s : StX c L B ρ n (iy :: ix :: ds) σ H (y :: x :: vs)) : ∃ B' lx ly, StX c L B' ρ n ds σ H vs ∧ Mv (Mo c (L ++ B)) (Mo c (L ++ B')) H H ∧ IR K c.g (Mo c (L ++ B)) H ρ σ ix lx x ∧ IR K c.g (Mo c (L ++ B)) H ρ σ iy ly y := by
  obtain ⟨_, hy⟩ := IRs.mid (ex := []) (ews := []) rfl s.it
  obtain ⟨_, hx⟩ := IRs.mid (ex := [iy]) (ews := [y]) rfl s.it
  obtain ⟨B1, h1, t1⟩ := s.it.tl
  obtain ⟨B2, h2, t2⟩ := t1.tl
  obtain ⟨s2, mv⟩ := s.cutB (h2.trans h1) t2
  exact ⟨B2, _, _, s2, mv, hx, hy⟩
theorem StX.it1 {ix : I} {x : V} (s : StX c L B ρ n (ix :: ds) σ H (x :: vs)) : ∃ B' lx, StX c L B' ρ n ds σ H vs ∧ Mv (Mo c (L ++ B)) (Mo c (L ++ B')) H H ∧ IR K c.g (Mo c (L ++ B)) H ρ σ ix lx x := by
  obtain ⟨_, hx⟩ := IRs.mid (ex := []) (ews := []) rfl s.it
  obtain ⟨B1, h1, t1⟩ := s.it.tl
  obtain ⟨s2, mv⟩ := s.cutB h1 t1
  exact ⟨B1, _, s2, mv, hx⟩
theorem IR.r {d : D} {l : List Addr} {w : V} (h : IR K g M H ρ σ (.v d) l w) : R K g M H w d := by cases h with | v r => exact r
theorem RO.dp {a : Addr} {d : D} (h : RO K g M H a d) (hd : d.dat = true) : Dp K H (.ref a) d.py := by
  cases d <;> first | exact h.elim | skip
  · obtain ⟨_, h, r⟩ := h; rw [D.dat] at hd; rw [D.py]; exact .lst (SqL.of h) (r.dp hd)
  · simp [D.dat] at hd
theorem IR.dpv {it : I} {l : List Addr} {w : V} (sl : SRs K g M H ρ L σ) (h : IR K g M H ρ σ it l w) (hd : it.val.dat = true) : Dp K H w it.val.py := by
  cases h with
  | v r => exact r.dp hd
  | o r => exact r.dp hd
  | @b i _ _ h q =>
    rcases q with q | q | ⟨_, q⟩
    · obtain ⟨_, _, _, x, _, e2, e3, _⟩ := sl.at q
      rw [h] at e2; cases e2
      cases e3 with | ow h2 => exact h2.dp hd
    · obtain ⟨_, _, _, x, _, e2, e3, _⟩ := sl.at q
      rw [h] at e2; cases e2
      cases e3 with | v r => exact r.dp hd
    · obtain ⟨_, _, _, x, _, e2, e3, _⟩ := sl.at q
      rw [h] at e2; cases e2
      cases e3 with | me h2 => exact h2.dp hd
/-! ### integers -/
theorem St.two {x y : V} {d e : D} (s : St c ρ n (.v e :: .v d :: ds) σ H (y :: x :: vs)) : (∃ M, R K c.g M H x d) ∧ ∃ M, R K c.g M H y e := by
  obtain ⟨L, B, s⟩ := s
  refine ⟨?_, _, s.val⟩
  obtain ⟨B', s2⟩ := s.pop
  exact ⟨_, s2.val⟩
theorem St.one {x : V} {d : D} (s : St c ρ n (.v d :: ds) σ H (x :: vs)) : ∃ M, R K c.g M H x d := by
  obtain ⟨L, B, s⟩ := s
  exact ⟨_, s.val⟩
theorem R.eInt {x : V} {i : Int} (h : ∃ M, R K g M H x (.int i)) : x = .int i := by obtain ⟨M, h⟩ := h; cases h; rfl
theorem R.eStr {x : V} {i : Str} (h : ∃ M, R K g M H x (.str i)) : x = .str i := by obtain ⟨M, h⟩ := h; cases h; rfl
theorem R.eBl {x : V} {i : Bool} (h : ∃ M, R K g M H x (.bl i)) : x = .bl i := by obtain ⟨M, h⟩ := h; cases h; rfl
theorem R.eTy {x : V} {i : String} (h : ∃ M, R K g M H x (.ty i)) : x = .ty i := by obtain ⟨M, h⟩ := h; cases h; rfl
theorem R.eNon {x : V} (h : ∃ M, R K g M H x .non) : x = .non := by obtain ⟨M, h⟩ := h; cases h; rfl
section
variable {i j : Int}
theorem iInt_ {f : Int → Int → Int} (h : Q (.v (.int (f i j))) ρ n) : GO c ρ n ds (rI0 fun i j => .int (f i j)) (.v (.int i)) (.v (.int j)) Q := fun σ H vs x y F s k => by
  obtain rfl := R.eInt s.two.1; obtain rfl := R.eInt s.two.2
  exact ⟨i, j, rfl, rfl, k _ _ _ _ _ h (s.pop.pop.pushS rfl)⟩
theorem iBl_ {f : Int → Int → Bool} (h : Q (.v (.bl (f i j))) ρ n) : GO c ρ n ds (rI0 fun i j => .bl (f i j)) (.v (.int i)) (.v (.int j)) Q := fun σ H vs x y F s k => by
  obtain rfl := R.eInt s.two.1; obtain rfl := R.eInt s.two.2
  exact ⟨i, j, rfl, rfl, k _ _ _ _ _ h (s.pop.pop.pushS rfl)⟩
theorem iC_ {C : Int → Int → Prop} {f : Int → Int → Int} (hc : C i j) (h : Q (.v (.int (f i j))) ρ n) : GO c ρ n ds (rI C fun i j => .int (f i j)) (.v (.int i)) (.v (.int j)) Q := fun σ H vs x y F s k => by
  obtain rfl := R.eInt s.two.1; obtain rfl := R.eInt s.two.2
  exact ⟨i, j, rfl, rfl, hc, k _ _ _ _ _ h (s.pop.pop.pushS rfl)⟩
/-- a remainder: a letter and what is known of it -/
theorem mod_ (hj : 0 < j) (h : ∀ z, i % j = z → 0 ≤ z → z < j → Q (.v (.int z)) ρ n) : GO c ρ n ds rMod (.v (.int i)) (.v (.int j)) Q := fun σ H vs x y F s k => by
  obtain rfl := R.eInt s.two.1; obtain rfl := R.eInt s.two.2
  exact ⟨i, j, rfl, rfl, hj, k _ _ _ _ _ (h _ rfl (Int.emod_nonneg i (by omega)) (Int.emod_lt_of_pos i hj)) (s.pop.pop.pushS rfl)⟩
theorem u_ {f : Int → Int} (h : Q (.v (.int (f i))) ρ n) : GU c ρ n ds (rU fun i => .int (f i)) (.v (.int i)) Q := fun σ H vs x F s k => by
  obtain rfl := R.eInt s.one
  exact ⟨i, rfl, k _ _ _ _ _ h (s.pop.pushS rfl)⟩
theorem addI_ (h : Q (.v (.int (i + j))) ρ n) : GO c ρ n ds (rAddU K) (.v (.int i)) (.v (.int j)) Q := fun σ H vs x y F s k => .inl (iInt_ (f := fun i j => i + j) h σ H vs x y F s k)
theorem addS_ {i j : Str} (hl : i.length + j.length ≤ sizeLine) (h : Q (.v (.str (i ++ j))) ρ n) : GO c ρ n ds (rAddU K) (.v (.str i)) (.v (.str j)) Q := fun σ H vs x y F s k => by
  obtain rfl := R.eStr s.two.1; obtain rfl := R.eStr s.two.2
  exact .inr (.inl ⟨i, j, rfl, rfl, hl, k _ _ _ _ _ h (s.pop.pop.pushS rfl)⟩)
theorem addL_ {ix iy : I} {xs ys : List D} (ex : ix.val = .lst xs) (ey : iy.val = .lst ys) (hl : xs.length + ys.length ≤ 100000) (h : Q (.o (.lst (xs ++ ys))) ρ n) : GO c ρ n ds (rAddU K) ix iy Q := fun σ H vs x y F ⟨L, B, s⟩ k => by
  obtain ⟨a, b, ws, us, B', rfl, rfl, ha, hb, s2, ra, rb⟩ := s.ls2 ex ey
  refine .inr (.inr (.inl ⟨a, b, ws, us, rfl, rfl, ha, hb, ?_, fun p hp => k _ _ _ _ _ h ⟨L, _, s2.pushO hp (ra.append rb)⟩⟩))
  rw [ra.len, rb.len]; exact Nat.le_trans hl (by decide)
theorem addT_ {xs ys : List D} (hl : xs.length + ys.length ≤ 100000) (h : Q (.v (.tup (xs ++ ys))) ρ n) : GO c ρ n ds (rAddU K) (.v (.tup xs)) (.v (.tup ys)) Q := fun σ H vs x y F ⟨L, B, s⟩ k => by
  obtain ⟨B', lx, ly, s2, mv, hx', hy'⟩ := s.it2
  cases hx'.r with
  | @tup a ws _ ha ra =>
  cases hy'.r with
  | @tup b us _ hb rb =>
  refine .inr (.inr (.inr ⟨a, b, ws, us, rfl, rfl, ha.sqt, hb.sqt, ?_, fun e => ?_, fun _ e => ?_, fun _ _ p hp => ?_⟩))
  · rw [ra.len, rb.len]; exact Nat.le_trans hl (by decide)
  · have : xs = [] := List.length_eq_zero_iff.mp (by rw [← ra.len, e]; rfl)
    subst this
    exact k _ _ _ _ _ h ⟨L, B', s2.pushR ((R.tup hb rb).mv mv)⟩
  · have : ys = [] := List.length_eq_zero_iff.mp (by rw [← rb.len, e]; rfl)
    subst this
    rw [List.append_nil] at h
    exact k _ _ _ _ _ h ⟨L, B', s2.pushR ((R.tup ha ra).mv mv)⟩
  · exact k _ _ _ _ _ h ⟨L, B', s2.pushT hp ((ra.append rb).mv mv)⟩
theorem repL_ {ix : I} {xs : List D} {m : Int} (ex : ix.val = .lst xs) (hm : -(2 ^ 63) ≤ m ∧ m < 2 ^ 63) (hl : xs.length * m.toNat ≤ 100000) (h : Q (.o (.lst (List.replicate m.toNat xs).flatten)) ρ n) : GO c ρ n ds rRep ix (.v (.int m)) Q := fun σ H vs x y F ⟨L, B, s⟩ k => by
  obtain ⟨B', lx, ly, s2, mv, hx, hy⟩ := s.it2
  cases hy.r
  obtain ⟨a, ws, rfl, ha, ra⟩ := hx.ls s.sl ex
  refine ⟨a, m, ws, rfl, rfl, ha, hm.1, hm.2, ?_, fun p hp => k _ _ _ _ _ h ⟨L, _, s2.pushO hp ?_⟩⟩
  · rw [ra.len]; exact Nat.le_trans hl (by decide)
  · have ra2 := ra.mv mv
    clear hl h
    induction m.toNat with
    | zero => exact .nil
    | succ q ih => rw [List.replicate_succ, List.replicate_succ, List.flatten_cons, List.flatten_cons]; exact ra2.append ih
/-! ### comparisons -/
theorem eqI_ (h : Q (.v (.bl (decide (i = j)))) ρ n) : GO c ρ n ds (rEqU K) (.v (.int i)) (.v (.int j)) Q := fun σ H vs x y F s k => by
  obtain rfl := R.eInt s.two.1; obtain rfl := R.eInt s.two.2
  exact HX.eq_int_ (k _ _ _ _ _ h (s.pop.pop.pushS rfl))
theorem neI_ (h : Q (.v (.bl (!decide (i = j)))) ρ n) : GO c ρ n ds (rNeU K) (.v (.int i)) (.v (.int j)) Q := fun σ H vs x y F s k => by
  obtain rfl := R.eInt s.two.1; obtain rfl := R.eInt s.two.2
  exact HX.ne_int_ (k _ _ _ _ _ h (s.pop.pop.pushS rfl))
theorem eqS_ {i j : Str} (h : Q (.v (.bl (decide (i = j)))) ρ n) : GO c ρ n ds (rEqU K) (.v (.str i)) (.v (.str j)) Q := fun σ H vs x y F s k => by
  obtain rfl := R.eStr s.two.1; obtain rfl := R.eStr s.two.2
  exact HX.eq_str_ (k _ _ _ _ _ h (s.pop.pop.pushS rfl))
theorem neS_ {i j : Str} (h : Q (.v (.bl (!decide (i = j)))) ρ n) : GO c ρ n ds (rNeU K) (.v (.str i)) (.v (.str j)) Q := fun σ H vs x y F s k => by
  obtain rfl := R.eStr s.two.1; obtain rfl := R.eStr s.two.2
  exact HX.ne_str_ (k _ _ _ _ _ h (s.pop.pop.pushS rfl))
theorem eqB_ {i j : Bool} (h : Q (.v (.bl (decide (i = j)))) ρ n) : GO c ρ n ds (rEqU K) (.v (.bl i)) (.v (.bl j)) Q := fun σ H vs x y F s k => by
  obtain rfl := R.eBl s.two.1; obtain rfl := R.eBl s.two.2
  exact HX.eq_bl_ (k _ _ _ _ _ h (s.pop.pop.pushS rfl))
theorem neB_ {i j : Bool} (h : Q (.v (.bl (!decide (i = j)))) ρ n) : GO c ρ n ds (rNeU K) (.v (.bl i)) (.v (.bl j)) Q := fun σ H vs x y F s k => by
  obtain rfl := R.eBl s.two.1; obtain rfl := R.eBl s.two.2
  exact HX.ne_bl_ (k _ _ _ _ _ h (s.pop.pop.pushS rfl))
theorem eqD_ {ix iy : I} (hc : D.cmp ix.val iy.val) (h : Q (.v (.bl (D.eqv ix.val iy.val))) ρ n) : GO c ρ n ds (rEqU K) ix iy Q := fun σ H vs x y F ⟨L, B, s⟩ k => by
  obtain ⟨B', lx, ly, s2, mv, hx, hy⟩ := s.it2
  exact HC.eqd_ (hx.dpv s.sl hc.1) (hy.dpv s.sl hc.2.1) hc.2.2.1 hc.2.2.2 (k _ _ _ _ _ h ⟨L, B', s2.pushR (.bl _)⟩)
theorem neD_ {ix iy : I} (hc : D.cmp ix.val iy.val) (h : Q (.v (.bl (!D.eqv ix.val iy.val))) ρ n) : GO c ρ n ds (rNeU K) ix iy Q := fun σ H vs x y F ⟨L, B, s⟩ k => by
  obtain ⟨B', lx, ly, s2, mv, hx, hy⟩ := s.it2
  exact HC.ned_ (hx.dpv s.sl hc.1) (hy.dpv s.sl hc.2.1) hc.2.2.1 hc.2.2.2 (k _ _ _ _ _ h ⟨L, B', s2.pushR (.bl _)⟩)
end
end
end HD
/-! operators, built-ins, methods on data: second part -/
namespace HD
open PySem PySem.Spec PyProof.Rows L2 HX
section
variable {K : PySem.W.Frag} {c : Wd K} {ρ : List S} {n : Nat} {ds : List I} {L B : List Addr} {σ : L2.St} {H H' : Hp} {vs : List V} {v : V} {p : Addr} {Q : QI} {g : Addr} {M : Addr → Prop}
/-! ### in, not in -/
theorem R.flat {v : V} {d : D} (h : R K g M H v d) (f : flatD d = true) : flatV v = true := by
  cases h <;> first | rfl | cases f
theorem R.eqF {v w : V} {d e : D} (h : R K g M H v d) (h2 : R K g M H w e) (f : flatD d = true) (f2 : flatD e = true) : eqV v w = HD.eqF d e := by
  cases h <;> cases h2 <;> first | rfl | cases f | cases f2
theorem RA.flat : ∀ {ws : List V} {xs : List D}, RA K g M H ws xs → xs.all flatD = true → ws.all flatV = true
  | _, _, .nil, _ => rfl
  | _, _, .cons a b, f => by
    rw [List.all_cons, Bool.and_eq_true] at f ⊢
    exact ⟨a.flat f.1, RA.flat b f.2⟩
theorem RA.inF {v : V} {d : D} (h : R K g M H v d) (fd : flatD d = true) : ∀ {ws : List V} {xs : List D}, RA K g M H ws xs → xs.all flatD = true → inV v ws = HD.inF d xs
  | _, _, .nil, _ => rfl
  | _, _, .cons a b, f => by
    rw [List.all_cons, Bool.and_eq_true] at f
    unfold inV HD.inF
    rw [List.any_cons, List.any_cons, a.eqF h f.1 fd]
    have := RA.inF h fd b f.2
    unfold inV HD.inF at this
    rw [this]
/-- an item's list or tuple -/
def D.seq : D → Option (List D)
  | .lst xs => some xs
  | .tup xs => some xs
  | _ => none
def I.seq (it : I) : Option (List D) := it.val.seq
theorem R.seq {w : V} {d : D} {xs : List D} (h : R K g M H w d) (e : d.seq = some xs) : ∃ a ws, w = .ref a ∧ (SqL K H a ws ∨ SqT K H a ws) ∧ RA K g M H ws xs := by
  cases d with
  | lst ys => cases e; cases h with | lst n h2 r => exact ⟨_, _, rfl, .inl (SqL.of h2), r⟩
  | tup ys => cases e; cases h with | tup h2 r => exact ⟨_, _, rfl, .inr h2.sqt, r⟩
  | _ => cases e
theorem RO.seq {a : Addr} {d : D} {xs : List D} (h : RO K g M H a d) (e : d.seq = some xs) : ∃ ws, (SqL K H a ws ∨ SqT K H a ws) ∧ RA K g M H ws xs := by
  cases d with
  | lst ys => cases e; obtain ⟨_, h, r⟩ := h; exact ⟨_, .inl (SqL.of h), r⟩
  | tup ys => exact h.elim
  | _ => cases e
theorem IR.seq {it : I} {l : List Addr} {w : V} {xs : List D} (sl : SRs K g M H ρ L σ) (h : IR K g M H ρ σ it l w) (e : it.seq = some xs) : ∃ a ws, w = .ref a ∧ (SqL K H a ws ∨ SqT K H a ws) ∧ RA K g M H ws xs := by
  cases h with
  | v r => exact r.seq e
  | o r => obtain ⟨ws, h1, h2⟩ := r.seq e; exact ⟨_, ws, rfl, h1, h2⟩
  | @b i _ _ h q =>
    rcases q with q | q | ⟨_, q⟩
    · obtain ⟨_, _, _, x, _, e2, e3, _⟩ := sl.at q
      rw [h] at e2; cases e2
      cases e3 with | ow h2 => obtain ⟨ws, h1, h2⟩ := h2.seq e; exact ⟨_, ws, rfl, h1, h2⟩
    · obtain ⟨_, _, _, x, _, e2, e3, _⟩ := sl.at q
      rw [h] at e2; cases e2
      cases e3 with | v r => exact r.seq e
    · obtain ⟨_, _, _, x, _, e2, e3, _⟩ := sl.at q
      rw [h] at e2; cases e2
      cases e3 with | me h2 => obtain ⟨ws, h1, h2⟩ := h2.seq e; exact ⟨_, ws, rfl, h1, h2⟩
theorem inG_ {neg : Bool} {d : D} {iy : I} {xs : List D} (ey : iy.seq = some xs) (fd : flatD d = true) (fx : xs.all flatD = true) {r : R2} (hr : ∀ x y H F, rIn K neg x y H F → r x y H F) (h : Q (.v (.bl (if neg then !inF d xs else inF d xs))) ρ n) : GO c ρ n ds r (.v d) iy Q := fun σ H vs x y F ⟨L, B, s⟩ k => by
  obtain ⟨B', lx, ly, s2, mv, hx, hy⟩ := s.it2
  obtain ⟨a, ws, rfl, hs, r⟩ := hy.seq s.sl ey
  refine hr _ _ _ _ ⟨a, ws, rfl, hs, hx.r.flat fd, r.flat fx, ?_⟩
  rw [RA.inF hx.r fd r fx]
  exact k _ _ _ _ _ h ⟨L, B', s2.pushR (.bl _)⟩
theorem in_ {d : D} {iy : I} {xs : List D} (ey : iy.seq = some xs) (fd : flatD d = true) (fx : xs.all flatD = true) (h : Q (.v (.bl (inF d xs))) ρ n) : GO c ρ n ds (rInU K) (.v d) iy Q := inG_ (neg := false) ey fd fx (fun _ _ _ _ z => .inl z) h
theorem ni_ {d : D} {iy : I} {xs : List D} (ey : iy.seq = some xs) (fd : flatD d = true) (fx : xs.all flatD = true) (h : Q (.v (.bl (!inF d xs))) ρ n) : GO c ρ n ds (rNiU K) (.v d) iy Q := inG_ (neg := true) ey fd fx (fun _ _ _ _ z => .inl z) h
theorem inSg_ {a : Nat} {z : Str} (h : Q (.v (.bl (decide (a ∈ z.cps.toList)))) ρ n) : GO c ρ n ds (rInU K) (.v (.str ⟨#[a]⟩)) (.v (.str z)) Q := fun σ H vs x y F s k => by
  obtain rfl := R.eStr s.two.1; obtain rfl := R.eStr s.two.2
  exact .inr ⟨a, z, rfl, rfl, k _ _ _ _ _ h (s.pop.pop.pushS rfl)⟩
theorem niSg_ {a : Nat} {z : Str} (h : Q (.v (.bl (!decide (a ∈ z.cps.toList)))) ρ n) : GO c ρ n ds (rNiU K) (.v (.str ⟨#[a]⟩)) (.v (.str z)) Q := fun σ H vs x y F s k => by
  obtain rfl := R.eStr s.two.1; obtain rfl := R.eStr s.two.2
  exact .inr ⟨a, z, rfl, rfl, k _ _ _ _ _ h (s.pop.pop.pushS rfl)⟩
/-! ### is None -/
theorem R.isNon {v : V} {d : D} (h : R K g M H v d) : decide (v = .non) = match d with | .non => true | _ => false := by
  cases h <;> first | rfl | (exact decide_eq_false (fun e => nomatch e))
def isNo : D → Bool
  | .non => true
  | _ => false
theorem RO.isNon {a : Addr} {d : D} (h : RO K g M H a d) : false = isNo d := by
  cases d <;> first | exact h.elim | rfl
theorem R.isNon2 {w : V} {d : D} (h : R K g M H w d) : decide (w = .non) = isNo d := by rw [h.isNon]; cases d <;> rfl
theorem IR.non {it : I} {l : List Addr} {w : V} (sl : SRs K g M H ρ L σ) (h : IR K g M H ρ σ it l w) : decide (w = .non) = isNo it.val := by
  cases h with
  | v r => exact r.isNon2
  | o r => rw [show decide (V.ref _ = V.non) = false from rfl, r.isNon]; rfl
  | @b i _ _ h q =>
    rcases q with q | q | ⟨_, q⟩
    · obtain ⟨_, _, _, x, _, e2, e3, _⟩ := sl.at q
      rw [h] at e2; cases e2
      cases e3 with | ow r => rw [show decide (V.ref _ = V.non) = false from rfl, r.isNon]; rfl
    · obtain ⟨_, _, _, x, _, e2, e3, _⟩ := sl.at q
      rw [h] at e2; cases e2
      cases e3 with | v r => exact r.isNon2
    · obtain ⟨_, _, _, x, _, e2, e3, _⟩ := sl.at q
      rw [h] at e2; cases e2
      cases e3 with | me r => rw [show decide (V.ref _ = V.non) = false from rfl, r.isNon]; rfl
theorem isN_ {ix : I} (h : Q (.v (.bl (isNo ix.val))) ρ n) : GO c ρ n ds rIsN ix (.v .non) Q := fun σ H vs x y F ⟨L, B, s⟩ k => by
  obtain ⟨B', lx, ly, s2, mv, hx, hy⟩ := s.it2
  cases hy.r
  refine ⟨rfl, ?_⟩
  rw [hx.non s.sl]
  exact k _ _ _ _ _ h ⟨L, B', s2.pushR (.bl _)⟩
theorem notN_ {ix : I} (h : Q (.v (.bl (!isNo ix.val))) ρ n) : GO c ρ n ds rNotN ix (.v .non) Q := fun σ H vs x y F ⟨L, B, s⟩ k => by
  obtain ⟨B', lx, ly, s2, mv, hx, hy⟩ := s.it2
  cases hy.r
  refine ⟨rfl, ?_⟩
  rw [hx.non s.sl]
  exact k _ _ _ _ _ h ⟨L, B', s2.pushR (.bl _)⟩
/-! ### items and slices -/
theorem ix_ {it : I} {xs : List D} {i : Int} {d : D} (e : it.seq = some xs) (hi : atI xs i = some d) (h : Q (.v d) ρ n) : GO c ρ n ds (rIx K) it (.v (.int i)) Q := fun σ H vs x y F ⟨L, B, s⟩ k => by
  obtain ⟨B', lx, ly, s2, mv, hx, hy⟩ := s.it2
  cases hy.r
  obtain ⟨a, ws, rfl, hs, r⟩ := hx.seq s.sl e
  obtain ⟨w, hw, rw'⟩ := r.atI hi
  have fin := k _ _ _ _ _ h ⟨L, B', s2.pushR (rw'.mv mv)⟩
  rcases hs with hs | hs
  · exact .inl ⟨a, ws, i, w, rfl, rfl, hs, hw, fin⟩
  · exact .inr (.inl ⟨a, ws, i, w, rfl, rfl, hs, hw, fin⟩)
theorem ixS_ {z : Str} {i : Int} {a : Nat} (hz : z.length ≤ sizeLine) (hi : atI z.cps.toList i = some a) (h : Q (.v (.str ⟨#[a]⟩)) ρ n) : GO c ρ n ds (rIx K) (.v (.str z)) (.v (.int i)) Q := fun σ H vs x y F s k => by
  obtain rfl := R.eStr s.two.1; obtain rfl := R.eInt s.two.2
  exact .inr (.inr ⟨z, i, a, rfl, rfl, hz, hi, k _ _ _ _ _ h (s.pop.pop.pushS rfl)⟩)
def GP (c : Wd K) (ρ : List S) (n : Nat) (ds : List I) (t : TO) (Q : Option Int → QS) : Prop :=
  ∀ σ H vs (F : Option Int → Hp → Prop), St c ρ n ds σ H vs → (∀ o ρ' n' H', Q o ρ' n' → St c ρ' n' ds σ H' vs → F o H') → t σ H F
theorem nopart_ {QO : Option Int → QS} (h : QO none ρ n) : GP c ρ n ds tNoPart QO := fun σ H vs F s k => k _ _ _ _ h s
theorem part_ {te : TE} {QO : Option Int → QS} (h : GE c ρ n ds te fun it ρ' n' => ∃ i, it = .v (.int i) ∧ QO (some i) ρ' n') : GP c ρ n ds (tPart te) QO := fun σ H vs F s k =>
  h σ H vs _ s fun it ρ' n' v H' ⟨i, e, q⟩ s' => by
    subst e
    obtain rfl := R.eInt s'.one
    exact ⟨i, rfl, k _ _ _ _ q s'.pop⟩
/-- a slice of the topmost item -/
def GL (c : Wd K) (ρ : List S) (n : Nat) (ds : List I) (r : V → Option Int → Option Int → Hp → VK → Prop) (it : I) (lo hi : Option Int) (Q : QI) : Prop :=
  ∀ σ H vs x (F : VK), St c ρ n (it :: ds) σ H (x :: vs) → (∀ it ρ' n' v H', Q it ρ' n' → St c ρ' n' (it :: ds) σ H' (v :: vs) → F v H') → r x lo hi H F
theorem sl_ {r : V → Option Int → Option Int → Hp → VK → Prop} {te : TE} {tl th : TO} (h : GE c ρ n ds te fun it ρ1 n1 => GP c ρ1 n1 (it :: ds) tl fun lo ρ2 n2 => GP c ρ2 n2 (it :: ds) th fun hi ρ3 n3 => GL c ρ3 n3 ds r it lo hi Q) : GE c ρ n ds (L2.tSl r te tl th) Q := fun σ H vs F s k =>
  h σ H vs _ s fun it ρ1 n1 x H1 q1 s1 => q1 σ H1 (x :: vs) _ s1 fun lo ρ2 n2 H2 q2 s2 => q2 σ H2 (x :: vs) _ s2 fun hi ρ3 n3 H3 q3 s3 => q3 σ H3 vs x F s3 k
theorem slL_ {it : I} {xs : List D} {lo hi : Option Int} (e : it.val = .lst xs) (h : Q (.o (.lst (cutD xs lo hi))) ρ n) : GL c ρ n ds (rSlU K) it lo hi Q := fun σ H vs x F ⟨L, B, s⟩ k => by
  obtain ⟨B', lx, s2, mv, hx⟩ := s.it1
  obtain ⟨a, ws, rfl, ha, ra⟩ := hx.ls s.sl e
  refine .inl ⟨a, ws, rfl, SqL.of ha, fun p hp => k _ _ _ _ _ h ⟨L, _, s2.pushO hp ?_⟩⟩
  unfold cutV cutD
  rw [ra.len]
  exact ((ra.mv mv).drop _).take _
theorem slT_ {xs : List D} {lo hi : Option Int} (h : Q (.v (.tup (cutD xs lo hi))) ρ n) : GL c ρ n ds (rSlU K) (.v (.tup xs)) lo hi Q := fun σ H vs x F ⟨L, B, s⟩ k => by
  obtain ⟨B', lx, s2, mv, hx⟩ := s.it1
  cases hx.r with
  | @tup a ws _ ha ra =>
  refine .inr (.inl ⟨a, ws, rfl, ha.sqt, fun hw => ?_, fun _ p hp => k _ _ _ _ _ h ⟨L, _, s2.pushT hp ?_⟩⟩)
  · rw [ra.len] at hw
    have e : cutD xs lo hi = xs := by
      unfold cutD
      rw [hw.1, hw.2, List.drop_zero, Nat.sub_zero, List.take_length]
    rw [e] at h
    exact k _ _ _ _ _ h ⟨L, _, s2.pushR ((R.tup ha ra).mv mv)⟩
  · unfold cutV cutD
    rw [ra.len]
    exact ((ra.mv mv).drop _).take _
theorem slS_ {z : Str} {lo hi : Option Int} (hz : z.length ≤ sizeLine) (h : Q (.v (.str (cutS z lo hi))) ρ n) : GL c ρ n ds (rSlU K) (.v (.str z)) lo hi Q := fun σ H vs x F s k => by
  obtain rfl := R.eStr s.one
  exact .inr (.inr ⟨z, rfl, hz, k _ _ _ _ _ h (s.pop.pushS rfl)⟩)
theorem rev_ {te : TE} (h : GE c ρ n ds te fun it ρ' n' => ∃ xs, it.val = .lst xs ∧ Q (.o (.lst xs.reverse)) ρ' n') : GE c ρ n ds (tRevL K te) Q := fun σ H vs F s k =>
  h σ H vs _ s fun it ρ' n' x H' ⟨xs, e, q⟩ ⟨L, B, s⟩ => by
    obtain ⟨B', lx, s2, mv, hx⟩ := s.it1
    obtain ⟨a, ws, rfl, ha, ra⟩ := hx.ls s.sl e
    exact ⟨a, ws, rfl, SqL.of ha, fun p hp => k _ _ _ _ _ q ⟨L, _, s2.pushO hp (ra.mv mv).reverse⟩⟩
/-! ### len and others -/
section
variable {it : I}
theorem gb1 {r : List V → Hp → VK → Prop} (h : ∀ σ H vs x (F : VK) L B, StX c L B ρ n (it :: ds) σ H (x :: vs) → (∀ it ρ' n' v H', Q it ρ' n' → St c ρ' n' (it :: ds) σ H' (v :: vs) → F v H') → r [x] H F) : GB c ρ n ds r [it] Q := fun σ H vs xs F hl ⟨L, B, s⟩ k => by
  match xs, hl with
  | [x], _ => exact h σ H vs x F L B s k
theorem len_ {xs : List D} (e : it.seq = some xs) (h : Q (.v (.int xs.length)) ρ n) : GB c ρ n ds (rLenU K) [it] Q := gb1 fun σ H vs x F L B s k => by
  obtain ⟨B', lx, s2, mv, hx⟩ := s.it1
  obtain ⟨a, ws, rfl, hs, r⟩ := hx.seq s.sl e
  refine .inl ⟨a, ws, rfl, hs, ?_⟩
  rw [r.len]
  exact k _ _ _ _ _ h ⟨L, B', s2.pushR (.int _)⟩
theorem lenS_ {z : Str} (hz : z.length ≤ sizeLine) (h : Q (.v (.int z.length)) ρ n) : GB c ρ n ds (rLenU K) [.v (.str z)] Q := gb1 fun σ H vs x F L B s k => by
  obtain rfl := R.eStr ⟨_, s.val⟩
  exact .inr ⟨z, rfl, hz, k _ _ _ _ _ h ((St.pop ⟨L, B, s⟩).pushS rfl)⟩
theorem abs_ {i : Int} (h : Q (.v (.int (if i < 0 then -i else i))) ρ n) : GB c ρ n ds rAbs [.v (.int i)] Q := gb1 fun σ H vs x F L B s k => by
  obtain rfl := R.eInt ⟨_, s.val⟩
  exact ⟨i, rfl, k _ _ _ _ _ h ((St.pop ⟨L, B, s⟩).pushS rfl)⟩
theorem intI_ {i : Int} (h : Q (.v (.int i)) ρ n) : GB c ρ n ds rInt1 [.v (.int i)] Q := gb1 fun σ H vs x F L B s k => by
  obtain rfl := R.eInt ⟨_, s.val⟩
  exact .inl ⟨i, rfl, k _ _ _ _ _ h ((St.pop ⟨L, B, s⟩).pushS rfl)⟩
theorem intB_ {b : Bool} (h : Q (.v (.int (if b then 1 else 0))) ρ n) : GB c ρ n ds rInt1 [.v (.bl b)] Q := gb1 fun σ H vs x F L B s k => by
  obtain rfl := R.eBl ⟨_, s.val⟩
  exact .inr ⟨b, rfl, k _ _ _ _ _ h ((St.pop ⟨L, B, s⟩).pushS rfl)⟩
theorem boolB_ {b : Bool} (h : Q (.v (.bl b)) ρ n) : GB c ρ n ds HC.rBool1 [.v (.bl b)] Q := gb1 fun σ H vs x F L B s k => by
  obtain rfl := R.eBl ⟨_, s.val⟩
  exact .inr ⟨b, rfl, k _ _ _ _ _ h ((St.pop ⟨L, B, s⟩).pushS rfl)⟩
theorem reprI_ {i : Int} (hi : i.natAbs.log2 < 1920) (h : Q (.v (.str (toString i))) ρ n) : GB c ρ n ds (fun xs H Q => ∃ i : Int, xs = [.int i] ∧ i.natAbs.log2 < 1920 ∧ Q (.str (toString i)) H) [.v (.int i)] Q := gb1 fun σ H vs x F L B s k => by
  obtain rfl := R.eInt ⟨_, s.val⟩
  exact ⟨i, rfl, hi, k _ _ _ _ _ h ((St.pop ⟨L, B, s⟩).pushS rfl)⟩
theorem listOf_ {xs : List D} (e : it.seq = some xs) (h : Q (.o (.lst xs)) ρ n) : GB c ρ n ds (rListOf K) [it] Q := gb1 fun σ H vs x F L B s k => by
  obtain ⟨B', lx, s2, mv, hx⟩ := s.it1
  obtain ⟨a, ws, rfl, hs, r⟩ := hx.seq s.sl e
  exact ⟨a, ws, rfl, hs, fun p hp => k _ _ _ _ _ h ⟨L, _, s2.pushO hp (r.mv mv)⟩⟩
theorem tupleOfL_ {xs : List D} (e : it.val = .lst xs) (h : Q (.v (.tup xs)) ρ n) : GB c ρ n ds (rTupleOf K) [it] Q := gb1 fun σ H vs x F L B s k => by
  obtain ⟨B', lx, s2, mv, hx⟩ := s.it1
  obtain ⟨a, ws, rfl, ha, r⟩ := hx.ls s.sl e
  exact ⟨a, ws, rfl, .inl ⟨SqL.of ha, fun p hp => k _ _ _ _ _ h ⟨L, _, s2.pushT hp (r.mv mv)⟩⟩⟩
theorem tupleOfT_ {xs : List D} (h : Q (.v (.tup xs)) ρ n) : GB c ρ n ds (rTupleOf K) [.v (.tup xs)] Q := gb1 fun σ H vs x F L B s k => by
  have s0 := s
  cases s.val with
  | @tup a ws _ ha ra => exact ⟨a, ws, rfl, .inr ⟨ha.sqt, k _ _ _ _ _ h ⟨L, B, s0⟩⟩⟩
theorem sum_ {ns : List Int} (e : it.val = .lst (ns.map D.int)) (h : Q (.v (.int ns.sum)) ρ n) : GB c ρ n ds (rSum K) [it] Q := gb1 fun σ H vs x F L B s k => by
  obtain ⟨B', lx, s2, mv, hx⟩ := s.it1
  obtain ⟨a, ws, rfl, ha, r⟩ := hx.ls s.sl e
  obtain rfl := r.ints
  exact ⟨a, ns, rfl, SqL.of ha, k _ _ _ _ _ h ⟨L, B', s2.pushR (.int _)⟩⟩
theorem any_ {bs : List Bool} (e : it.val = .lst (bs.map D.bl)) (h : Q (.v (.bl (bs.any id))) ρ n) : GB c ρ n ds (rAny K) [it] Q := gb1 fun σ H vs x F L B s k => by
  obtain ⟨B', lx, s2, mv, hx⟩ := s.it1
  obtain ⟨a, ws, rfl, ha, r⟩ := hx.ls s.sl e
  obtain rfl := r.bls
  exact ⟨a, bs, rfl, SqL.of ha, k _ _ _ _ _ h ⟨L, B', s2.pushR (.bl _)⟩⟩
theorem all_ {bs : List Bool} (e : it.val = .lst (bs.map D.bl)) (h : Q (.v (.bl (bs.all id))) ρ n) : GB c ρ n ds (rAll K) [it] Q := gb1 fun σ H vs x F L B s k => by
  obtain ⟨B', lx, s2, mv, hx⟩ := s.it1
  obtain ⟨a, ws, rfl, ha, r⟩ := hx.ls s.sl e
  obtain rfl := r.bls
  exact ⟨a, bs, rfl, SqL.of ha, k _ _ _ _ _ h ⟨L, B', s2.pushR (.bl _)⟩⟩
theorem sorted_ {ns : List Int} (e : it.val = .lst (ns.map D.int)) (hl : ns.length < 64) (h : ∀ ms : List Int, ms.Perm ns → ms.Pairwise (· ≤ ·) → Q (.o (.lst (ms.map D.int))) ρ n) : GB c ρ n ds (rSorted K) [it] Q := gb1 fun σ H vs x F L B s k => by
  obtain ⟨B', lx, s2, mv, hx⟩ := s.it1
  obtain ⟨a, ws, rfl, ha, r⟩ := hx.ls s.sl e
  obtain rfl := r.ints
  exact ⟨a, ns, rfl, SqL.of ha, hl, fun ms p hp hq np => k _ _ _ _ _ (h ms hp hq) ⟨L, _, s2.pushO np (RA.ofInts ms)⟩⟩
theorem max_ {ns : List Int} (e : it.val = .lst (ns.map D.int)) (hl : 0 < ns.length) (h : ∀ m, m ∈ ns → (∀ y, y ∈ ns → y ≤ m) → Q (.v (.int m)) ρ n) : GB c ρ n ds (rMax K) [it] Q := gb1 fun σ H vs x F L B s k => by
  obtain ⟨B', lx, s2, mv, hx⟩ := s.it1
  obtain ⟨a, ws, rfl, ha, r⟩ := hx.ls s.sl e
  obtain rfl := r.ints
  exact ⟨a, ns, rfl, SqL.of ha, hl, fun m hm hy => k _ _ _ _ _ (h m hm hy) ⟨L, B', s2.pushR (.int _)⟩⟩
theorem min_ {ns : List Int} (e : it.val = .lst (ns.map D.int)) (hl : 0 < ns.length) (h : ∀ m, m ∈ ns → (∀ y, y ∈ ns → m ≤ y) → Q (.v (.int m)) ρ n) : GB c ρ n ds (rMin K) [it] Q := gb1 fun σ H vs x F L B s k => by
  obtain ⟨B', lx, s2, mv, hx⟩ := s.it1
  obtain ⟨a, ws, rfl, ha, r⟩ := hx.ls s.sl e
  obtain rfl := r.ints
  exact ⟨a, ns, rfl, SqL.of ha, hl, fun m hm hy => k _ _ _ _ _ (h m hm hy) ⟨L, B', s2.pushR (.int _)⟩⟩
theorem max2_ {i j : Int} (h : Q (.v (.int (if j > i then j else i))) ρ n) : GB c ρ n ds rMax2 [.v (.int i), .v (.int j)] Q := fun σ H vs xs F hl s k => by
  match xs, hl with
  | [x, y], _ =>
  obtain rfl := R.eInt (St.one s); obtain rfl := R.eInt (St.one (St.pop s))
  exact ⟨i, j, rfl, k _ _ _ _ _ h (St.pushS (St.pop (St.pop s)) rfl)⟩
theorem min2_ {i j : Int} (h : Q (.v (.int (if j < i then j else i))) ρ n) : GB c ρ n ds rMin2 [.v (.int i), .v (.int j)] Q := fun σ H vs xs F hl s k => by
  match xs, hl with
  | [x, y], _ =>
  obtain rfl := R.eInt (St.one s); obtain rfl := R.eInt (St.one (St.pop s))
  exact ⟨i, j, rfl, k _ _ _ _ _ h (St.pushS (St.pop (St.pop s)) rfl)⟩
end
end
end HD
/-! methods, instances, constructors on data -/
namespace HD
open PySem PySem.Spec PyProof.Rows L2 HX
section
variable {K : PySem.W.Frag} {c : Wd K} {ρ : List S} {n : Nat} {ds : List I} {L B : List Addr} {σ : L2.St} {H H' : Hp} {vs : List V} {v : V} {p : Addr} {Q : QI} {g : Addr} {M : Addr → Prop}
/-! ### methods of built-in types -/
def tyD (T : String) : D → Prop
  | .lst _ => T = "list"
  | .str _ => T = "str"
  | .int _ => T = "int"
  | _ => False
theorem IR.cases {it : I} {l : List Addr} {w : V} (sl : SRs K g M H ρ L σ) (h : IR K g M H ρ σ it l w) : R K g M H w it.val ∨ ∃ a, w = .ref a ∧ RO K g M H a it.val := by
  cases h with
  | v r => exact .inl r
  | o r => exact .inr ⟨_, rfl, r⟩
  | @b i _ _ h q =>
    rcases q with q | q | ⟨_, q⟩
    · obtain ⟨_, _, _, x, _, e2, e3, _⟩ := sl.at q
      rw [h] at e2; cases e2
      cases e3 with | ow r => exact .inr ⟨_, rfl, r⟩
    · obtain ⟨_, _, _, x, _, e2, e3, _⟩ := sl.at q
      rw [h] at e2; cases e2
      cases e3 with | v r => exact .inl r
    · obtain ⟨_, _, _, x, _, e2, e3, _⟩ := sl.at q
      rw [h] at e2; cases e2
      cases e3 with | me r => exact .inr ⟨_, rfl, r⟩
theorem tyD.okv {T : String} {it : I} {l : List Addr} {w : V} (sl : SRs K g M H ρ L σ) (h : IR K g M H ρ σ it l w) (t : tyD T it.val) : tyV K T w H := by
  rcases h.cases sl with r | ⟨a, rfl, r⟩
  · generalize it.val = d at r t
    cases r <;> first | exact t.elim | exact t | skip
    · rename_i n e q; exact .inl ⟨t, _, SqL.of e⟩
  · generalize it.val = d at r t
    cases d <;> first | exact r.elim | exact t.elim | skip
    · obtain ⟨_, e, _⟩ := r; exact .inl ⟨t, _, SqL.of e⟩
theorem bm_ {T : String} {r : V → List V → Hp → VK → Prop} {to : TE} {t : TA} (h : GE c ρ n ds to fun ix ρ1 n1 => tyD T ix.val ∧ GA c ρ1 n1 (ix :: ds) t fun its ρ2 n2 => GM c ρ2 n2 ds r ix its Q) : GE c ρ n ds (tBM K T r to t) Q := fun σ H vs F s k =>
  h σ H vs _ s fun ix ρ1 n1 x H1 ⟨ht, q⟩ ⟨L, B, s1⟩ => by
    obtain ⟨B', lx, s2, mv, hx⟩ := s1.it1
    exact ⟨tyD.okv s1.sl hx ht, q σ H1 (x :: vs) _ ⟨L, B, s1⟩ fun its ρ2 n2 xs H2 q2 hl s3 => q2 σ H2 vs x xs F hl s3 k⟩
theorem bm0_ {T : String} {r : V → List V → Hp → VK → Prop} {to : TE} (h : GE c ρ n ds to fun ix ρ1 n1 => tyD T ix.val ∧ GM c ρ1 n1 ds r ix [] Q) : GE c ρ n ds (tBM0 K T r to) Q := fun σ H vs F s k =>
  h σ H vs _ s fun ix ρ1 n1 x H1 ⟨ht, q⟩ ⟨L, B, s1⟩ => by
    obtain ⟨B', lx, s2, mv, hx⟩ := s1.it1
    exact ⟨tyD.okv s1.sl hx ht, q σ H1 vs x [] F rfl ⟨L, B, s1⟩ k⟩
/-- the item beneath the topmost one is what slot i owns -/
theorem slotOf {i : Nat} {d : D} {it : I} {x y : V} (s : StX c L B ρ n (it :: .b i d :: ds) σ H (y :: x :: vs)) : σ[i]? = some (some x) := by
  obtain ⟨_, hx⟩ := IRs.mid (ex := [it]) (ews := [y]) rfl s.it
  cases hx with | b e _ => exact e
theorem append_ {i : Nat} {it : I} {d0 : D} {xs : List D} (hc : clean ds = true) (hi : (frz1 ρ it)[i]? = some (.ow (.lst xs))) (hl : Nat.ble xs.length 100000 = true) (h : Q (.v .non) ((frz1 ρ it).set i (.ow (.lst (xs ++ [it.val])))) n) : GM c ρ n ds rAppend (.b i d0) [it] Q := fun σ H vs x ys F hy s k => by
  match ys, hy with
  | [y], _ =>
  obtain ⟨L, B, s⟩ := St.frz1 s
  have hs := slotOf s
  have hv := s.val
  obtain ⟨B', lx, ly, s2, mv, _, _⟩ := s.it2
  obtain ⟨a, e1, ⟨ws, ha, ra⟩, w⟩ := s2.wrS hc hi
  rw [hs] at e1; cases e1
  refine ⟨a, ws, y, rfl, rfl, ha, ?_, k _ _ _ _ _ h ⟨L, B', (w (t := .lst (xs ++ [it.val])) (o := .lst (ws ++ [y])) fun m => ⟨_, upd_same, ?_⟩).pushR .non⟩⟩
  · rw [ra.len]; exact Nat.lt_of_lt_of_le (Nat.lt_succ_of_le (Nat.le_of_ble_eq_true hl)) (by decide)
  · exact (ra.append (.cons (hv.mv mv) .nil)).mv m
theorem extend_ {i : Nat} {it : I} {d0 : D} {xs zs : List D} (hc : clean ds = true) (hi : ρ[i]? = some (.ow (.lst xs))) (hz : it.val = .lst zs) (hl : xs.length + zs.length ≤ 100000) (h : Q (.v .non) (ρ.set i (.ow (.lst (xs ++ zs)))) n) : GM c ρ n ds rExtend (.b i d0) [it] Q := fun σ H vs x ys F hy ⟨L, B, s⟩ k => by
  match ys, hy with
  | [y], _ =>
  have hs := slotOf s
  obtain ⟨B', lx, ly, s2, mv, hx, hit⟩ := s.it2
  obtain ⟨b, us, rfl, hb, rb⟩ := hit.ls s.sl hz
  obtain ⟨a, e1, ⟨ws, ha, ra⟩, w⟩ := s2.wrS hc hi
  rw [hs] at e1; cases e1
  refine ⟨a, b, ws, us, rfl, rfl, ha, hb, ?_, k _ _ _ _ _ h ⟨L, B', (w (t := .lst (xs ++ zs)) (o := .lst (ws ++ us)) fun m => ⟨_, upd_same, ?_⟩).pushR .non⟩⟩
  · rw [ra.len, rb.len]; exact Nat.le_trans hl (by decide)
  · exact (ra.append (rb.mv mv)).mv m
theorem slotOf1 {i : Nat} {d : D} {x : V} (s : StX c L B ρ n (.b i d :: ds) σ H (x :: vs)) : σ[i]? = some (some x) := by
  obtain ⟨_, hx⟩ := IRs.mid (ex := []) (ews := []) rfl s.it
  cases hx with | b e _ => exact e
theorem pop_ {i : Nat} {d0 d : D} {xs : List D} (hc : clean ds = true) (hi : ρ[i]? = some (.ow (.lst xs))) (hd : xs[xs.length - 1]? = some d) (h : Q (.v d) (ρ.set i (.ow (.lst xs.dropLast))) n) : GM c ρ n ds rPop (.b i d0) [] Q := fun σ H vs x ys F hy ⟨L, B, s⟩ k => by
  match ys, hy with
  | [], _ =>
  have hs := slotOf1 s
  obtain ⟨B', lx, s2, mv, hx⟩ := s.it1
  obtain ⟨a, e1, ⟨ws, ha, ra⟩, w⟩ := s2.wrS hc hi
  rw [hs] at e1; cases e1
  obtain ⟨z, hz, rz⟩ := ra.at hd
  have s3 : StX c L B' (ρ.set i (.ow (.lst xs.dropLast))) n ds σ (upd H a (.lst ws.dropLast)) vs := w fun m => ⟨_, upd_same, (ra.dropLast).mv m⟩
  have mo : Mv (Mo c (L ++ B')) (Mo c (L ++ B')) H (upd H a (.lst ws.dropLast)) := mv_own (by
    obtain ⟨L1, l, L2, x, f1, f2, f3, _⟩ := s2.sl.at hi
    rw [hs] at f2; cases f2
    cases f3
    rw [f1]; simp)
  exact ⟨a, ws, z, rfl, rfl, ha, by rw [ra.len]; exact hz, k _ _ _ _ _ h ⟨L, B', s3.pushR (rz.mv mo)⟩⟩
theorem lcount_ {ix : I} {ns : List Int} {j : Int} (e : ix.val = .lst (ns.map D.int)) (h : Q (.v (.int (ns.count j : Nat))) ρ n) : GM c ρ n ds (rCntI K) ix [.v (.int j)] Q := fun σ H vs x ys F hy ⟨L, B, s⟩ k => by
  match ys, hy with
  | [y], _ =>
  obtain ⟨B', lx, ly, s2, mv, hx, hit⟩ := StX.it2 (ix := ix) (iy := .v (.int j)) s
  cases hit.r
  obtain ⟨a, ws, rfl, ha, ra⟩ := hx.ls s.sl e
  obtain rfl := ra.ints
  exact ⟨a, ns, j, rfl, rfl, SqL.of ha, k _ _ _ _ _ h ⟨L, B', s2.pushR (.int _)⟩⟩
/-! ### x[i] = e -/
def GX (c : Wd K) (ρ : List S) (n : Nat) (ds : List I) (t : TSet) (io ii it : I) (Q : QS) : Prop :=
  ∀ σ H vs o i v (F : Hp → Prop), St c ρ n (ii :: io :: it :: ds) σ H (i :: o :: v :: vs) → (∀ ρ' n' H', Q ρ' n' → St c ρ' n' ds σ H' vs → F H') → t o i v H F
theorem gsub_ {to ti : TE} {t : TSet} {it : I} {QG : QS} (h : GE c ρ n (it :: ds) to fun io ρ1 n1 => GE c ρ1 n1 (io :: it :: ds) ti fun ii ρ2 n2 => GX c ρ2 n2 ds t io ii it QG) : GG c ρ n ds (gSub to ti t) it QG := fun σ H vs v F s k =>
  h σ H (v :: vs) _ s fun io ρ1 n1 o H1 q1 s1 => q1 σ H1 (o :: v :: vs) _ s1 fun ii ρ2 n2 i H2 q2 s2 => q2 σ H2 vs o i v _ s2 fun ρ3 n3 H3 q3 s3 => k _ _ _ _ q3 s3
theorem setL_ {i : Nat} {it : I} {d0 : D} {xs : List D} {j : Int} {m : Nat} {QG : QS} (hc : clean ds = true) (hi : (frz1 ρ it)[i]? = some (.ow (.lst xs))) (hj : ixN xs.length j = some m) (h : QG ((frz1 ρ it).set i (.ow (.lst (xs.set m it.val)))) n) : GX c ρ n ds rSetL (.b i d0) (.v (.int j)) it QG := fun σ H vs o y v F s k => by
  have s1 := St.rot' (is := [.v (.int j), .b i d0]) (ws := [y, o]) rfl s
  obtain ⟨L, B, s⟩ := St.frz1 s1
  have hv := s.val
  obtain ⟨_, hy⟩ := IRs.mid (ex := [.v it.val]) (ews := [v]) rfl s.it
  cases hy.r
  obtain ⟨_, ho⟩ := IRs.mid (ex := [.v it.val, .v (.int j)]) (ews := [v, .int j]) rfl s.it
  have hs : σ[i]? = some (some o) := by cases ho with | b e _ => exact e
  obtain ⟨B1, h1, t1⟩ := s.it.tl
  obtain ⟨B2, h2, t2⟩ := IRs.tl t1
  obtain ⟨B3, h3, t3⟩ := IRs.tl t2
  obtain ⟨s2, mv⟩ := s.cutB ((h3.trans h2).trans h1) t3
  obtain ⟨a, e1, ⟨ws, ha, ra⟩, w⟩ := s2.wrS hc hi
  rw [hs] at e1; cases e1
  refine ⟨a, ws, j, m, rfl, rfl, ha, by rw [ra.len]; exact hj, k _ _ _ h ⟨L, B3, w fun mm => ⟨_, upd_same, (ra.set m (hv.mv mv)).mv mm⟩⟩⟩
/-! ### isinstance -/
/-- the built-in type of a value -/
def D.tn : D → Option String
  | .non => some "NoneType"
  | .bl _ => some "bool"
  | .int _ => some "int"
  | .str _ => some "str"
  | .lst _ => some "list"
  | .tup _ => some "tuple"
  | _ => none
theorem R.tn {v : V} {d : D} {t : String} (h : R K g M H v d) (e : d.tn = some t) : TyX K H v (.type t) := by
  cases h <;> first | (cases e; done) | skip
  · cases e; exact .base .non
  · cases e; exact .base (.bl _)
  · cases e; exact .base (.int _)
  · cases e; exact .base (.str _)
  · cases e; rename_i h _; exact .base (.lst h)
  · cases e
    rename_i h _
    rcases h with h | h
    · exact .base (.tup h.2)
    · rcases h with (h | ⟨_, h⟩) | ⟨o, its, m, h1, h2, _⟩
      · cases h
      · cases h
      · exact .kTuple h1 h2
theorem RO.tn {a : Addr} {d : D} {t : String} (h : RO K g M H a d) (e : d.tn = some t) : TyX K H (.ref a) (.type t) := by
  cases d <;> first | exact h.elim | (cases e; done) | skip
  · cases e; obtain ⟨_, h, _⟩ := h; exact .base (.lst h)
theorem IR.tn {it : I} {l : List Addr} {w : V} {t : String} (sl : SRs K g M H ρ L σ) (h : IR K g M H ρ σ it l w) (e : it.val.tn = some t) : TyX K H w (.type t) := by
  rcases h.cases sl with r | ⟨a, rfl, r⟩
  · exact r.tn e
  · exact r.tn e
theorem isiB_ {it : I} {t u : String} {b : Bool} (e : it.val.tn = some t) (hk : PySem.W.kitOne K (.type t) (.type u) = some b) (h : Q (.v (.bl b)) ρ n) : GB c ρ n ds (rIsi K) [it, .v (.ty u)] Q := fun σ H vs xs F hl ⟨L, B, s⟩ k => by
  match xs, hl with
  | [x, y], _ =>
  have s1 : St c ρ n (.v (.ty u) :: it :: ds) σ H (y :: x :: vs) := St.rot (is := [.v (.ty u)]) (ws := [y]) rfl ⟨L, B, s⟩
  obtain ⟨L, B, s1⟩ := s1
  obtain ⟨B', lx, ly, s2, mv, hx, hy⟩ := s1.it2
  cases hy.r
  exact ⟨x, .ty u, .type t, .type u, b, rfl, .ty u, hx.tn s1.sl e, hk, k _ _ _ _ _ h ⟨L, B', s2.pushR (.bl _)⟩⟩
/-- a built-in value and an own class -/
theorem isiBO_ {it : I} {t : String} {C : Addr} {b : Bool} (e : it.val.tn = some t) (hk : PySem.W.kitOne K (.type t) (.ref C) = some b) (h : Q (.v (.bl b)) ρ n) : GB c ρ n ds (rIsi K) [it, .v (.glo C)] Q := fun σ H vs xs F hl ⟨L, B, s⟩ k => by
  match xs, hl with
  | [x, y], _ =>
  obtain ⟨L, B, s1⟩ := (St.rot (is := [.v (.glo C)]) (ws := [y]) rfl ⟨L, B, s⟩ : St c ρ n (.v (.glo C) :: it :: ds) σ H (y :: x :: vs))
  obtain ⟨B', lx, ly, s2, mv, hx, hy⟩ := s1.it2
  cases hy.r
  exact ⟨x, .ref C, .type t, .ref C, b, rfl, .own C, hx.tn s1.sl e, hk, k _ _ _ _ _ h ⟨L, B', s2.pushR (.bl _)⟩⟩
theorem IR.ins {it : I} {l : List Addr} {w : V} {C : Addr} {fs : List (Str × D)} (sl : SRs K g M H ρ L σ) (h : IR K g M H ρ σ it l w) (e : it.val = .ins C fs) : ∃ a dx fv, w = .ref a ∧ H a = some (.ins C dx fv) ∧ RF K g M H fv fs := by
  rcases h.cases sl with r | ⟨a, rfl, r⟩
  · rw [e] at r; cases r with | ins n h r => exact ⟨_, _, _, rfl, h, r⟩
  · rw [e] at r; obtain ⟨dx, fv, h, r⟩ := r; exact ⟨a, dx, fv, rfl, h, r⟩
/-- an instance and an own class -/
theorem isiO_ {it : I} {C E : Addr} {nm : Str} {CP : Addr} {fs : List (Str × D)} {b : Bool} (e : it.val = .ins C fs) (pc : HC.PC K CP C nm) (hk : PySem.W.kitOne K (.ref C) (.ref E) = some b) (h : Q (.v (.bl b)) ρ n) : GB c ρ n ds (rIsi K) [it, .v (.glo E)] Q := fun σ H vs xs F hl ⟨L, B, s⟩ k => by
  match xs, hl with
  | [x, y], _ =>
  obtain ⟨L, B, s1⟩ := (St.rot (is := [.v (.glo E)]) (ws := [y]) rfl ⟨L, B, s⟩ : St c ρ n (.v (.glo E) :: it :: ds) σ H (y :: x :: vs))
  obtain ⟨B', lx, ly, s2, mv, hx, hy⟩ := s1.it2
  cases hy.r
  obtain ⟨a, dx, fv, rfl, ha, _⟩ := hx.ins s1.sl e
  exact ⟨.ref a, .ref E, .ref C, .ref E, b, rfl, .own E, pc.ty ha, hk, k _ _ _ _ _ h ⟨L, B', s2.pushR (.bl _)⟩⟩
/-- an instance and a built-in type -/
theorem isiOB_ {it : I} {C : Addr} {u : String} {nm : Str} {CP : Addr} {fs : List (Str × D)} {b : Bool} (e : it.val = .ins C fs) (pc : HC.PC K CP C nm) (hk : PySem.W.kitOne K (.ref C) (.type u) = some b) (h : Q (.v (.bl b)) ρ n) : GB c ρ n ds (rIsi K) [it, .v (.ty u)] Q := fun σ H vs xs F hl ⟨L, B, s⟩ k => by
  match xs, hl with
  | [x, y], _ =>
  obtain ⟨L, B, s1⟩ := (St.rot (is := [.v (.ty u)]) (ws := [y]) rfl ⟨L, B, s⟩ : St c ρ n (.v (.ty u) :: it :: ds) σ H (y :: x :: vs))
  obtain ⟨B', lx, ly, s2, mv, hx, hy⟩ := s1.it2
  cases hy.r
  obtain ⟨a, dx, fv, rfl, ha, _⟩ := hx.ins s1.sl e
  exact ⟨.ref a, .ty u, .ref C, .type u, b, rfl, .ty u, pc.ty ha, hk, k _ _ _ _ _ h ⟨L, B', s2.pushR (.bl _)⟩⟩
/-! ### fields, classes, names -/
theorem RF.get {fv : List (Str × V)} {fs : List (Str × D)} {f : Str} {d : D} (h : RF K g M H fv fs) (e : fs.lookup f = some d) : ∃ v, fv.lookup f = some v ∧ R K g M H v d := h.at e
theorem fld_ {ta : TE} {f : Str} (h : GE c ρ n ds ta fun it ρ' n' => ∃ C fs d, it.val = .ins C fs ∧ Cls K C ∧ NoAttr K C f ∧ fs.lookup f = some d ∧ Q (.v d) ρ' n') : GE c ρ n ds (tFld K ta f) Q := fun σ H vs F s k =>
  h σ H vs _ s fun it ρ' n' x H' ⟨C, fs, d, e, hc, hn, hl, q⟩ ⟨L, B, s⟩ => by
    obtain ⟨B', lx, s2, mv, hx⟩ := s.it1
    obtain ⟨a, dx, fv, rfl, ha, rf⟩ := hx.ins s.sl e
    obtain ⟨v, hv, rv⟩ := rf.at hl
    exact ⟨a, C, dx, fv, v, rfl, ha, hc, hn, hv, k _ _ _ _ _ q ⟨L, B', s2.pushR (rv.mv mv)⟩⟩
theorem cls_ {ta : TE} (h : GE c ρ n ds ta fun it ρ' n' => ∃ C fs, it.val = .ins C fs ∧ HP.HasCls K C ∧ Q (.v (.glo C)) ρ' n') : GE c ρ n ds (HP.tClass K ta) Q := fun σ H vs F s k =>
  h σ H vs _ s fun it ρ' n' x H' ⟨C, fs, e, hc, q⟩ ⟨L, B, s⟩ => by
    obtain ⟨B', lx, s2, mv, hx⟩ := s.it1
    obtain ⟨a, dx, fv, rfl, ha, rf⟩ := hx.ins s.sl e
    exact ⟨a, C, dx, fv, rfl, ha, hc, k _ _ _ _ _ q ⟨L, B', s2.pushR (.glo C)⟩⟩
theorem name_ {ta : TE} (h : GE c ρ n ds ta fun it ρ' n' => ∃ C nm, it = .v (.glo C) ∧ HP.ClsNm K C nm ∧ Q (.v (.str nm)) ρ' n') : GE c ρ n ds (HP.tName K ta) Q := fun σ H vs F s k =>
  h σ H vs _ s fun it ρ' n' x H' ⟨C, nm, e, hc, q⟩ s => by
    subst e
    obtain ⟨M, r⟩ := s.one
    cases r
    exact ⟨C, nm, rfl, hc, k _ _ _ _ _ q (s.pop.pushS rfl)⟩
/-! ### self.f = e -/
def putD (f : Str) (d : D) : List (Str × D) → List (Str × D)
  | [] => [(f, d)]
  | (x, u) :: r => if x = f then (x, d) :: r else (x, u) :: putD f d r
theorem RF.put {f : Str} {v : V} {d : D} (h : R K g M H v d) : ∀ {fv : List (Str × V)} {fs : List (Str × D)}, RF K g M H fv fs → RF K g M H (putF f v fv) (putD f d fs)
  | _, _, .nil => by unfold putF putD; exact .cons h .nil
  | _, _, .cons (f := x) a b => by
    unfold putF putD
    by_cases e : x = f
    · rw [if_pos e, if_pos e]; exact .cons h b
    · rw [if_neg e, if_neg e]; exact .cons a (RF.put h b)
theorem RF.len : ∀ {fv : List (Str × V)} {fs : List (Str × D)}, RF K g M H fv fs → fv.length = fs.length
  | _, _, .nil => rfl
  | _, _, .cons a b => by rw [List.length_cons, List.length_cons, RF.len b]
theorem setf_ {ta tv : TE} {f : Str} {nx bk ct : QS} {rt : I → Nat → Prop} (h : GE c ρ n ds tv fun it ρ1 n1 => GE c ρ1 n1 (it :: ds) ta fun io ρ2 n2 => ∃ i d0 C fs, io = .b i d0 ∧ clean ds = true ∧ (frz1 ρ2 it)[i]? = some (.ow (.ins C fs)) ∧ Cls K C ∧ NoAttr K C f ∧ Nat.ble fs.length 900 = true ∧ nx ((frz1 ρ2 it).set i (.ow (.ins C (putD f it.val fs)))) n2) : GS c ρ n ds (sFld K ta tv f) ⟨nx, rt, bk, ct⟩ := fun σ H vs E s k =>
  h σ H vs _ s fun it ρ1 n1 y H1 q1 s1 => q1 σ H1 (y :: vs) _ s1 fun io ρ2 n2 x H2 ⟨i, d0, C, fs, e, hc, hi, hC, hn, hl, q⟩ s2 => by
    subst e
    have s3 := St.frz1 (St.rot' (is := [.b i d0]) (ws := [x]) rfl s2)
    obtain ⟨L, B, s3⟩ := s3
    have hv := s3.val
    have hs : σ[i]? = some (some x) := slotOf s3
    obtain ⟨B', lx, ly, s4, mv, _, _⟩ := s3.it2
    obtain ⟨a, e1, ⟨dx, fv, ha, rf⟩, w⟩ := s4.wrS hc hi
    rw [hs] at e1; cases e1
    have := Nat.le_of_ble_eq_true hl
    have hlen := rf.len
    exact ⟨a, C, dx, fv, rfl, ha, hC, hn, by omega, k.nx _ _ _ _ q ⟨L, B', w fun m => ⟨dx, _, upd_same, (rf.put (hv.mv mv)).mv m⟩⟩⟩
end
end HD
/-! chains of comparisons, constructors, own == and truth, calls by names -/
namespace HD
open PySem PySem.Spec PyProof.Rows L2 HX
section
variable {K : PySem.W.Frag} {c : Wd K} {ρ : List S} {n : Nat} {ds : List I} {L B : List Addr} {σ : L2.St} {H H' : Hp} {vs : List V} {v : V} {p : Addr} {Q : QI} {QB : Bool → QS} {g : Addr} {M : Addr → Prop}
/-! ### chains -/
theorem St.dup {d : D} {ix : I} {x y : V} (s : St c ρ n (.v d :: ix :: ds) σ H (y :: x :: vs)) : St c ρ n (.v d :: ix :: .v d :: ds) σ H (y :: x :: y :: vs) := by
  obtain ⟨L, B, s⟩ := s
  have s2 : St c ρ n (.v d :: ([.v d, ix] ++ ds)) σ H (y :: ([y, x] ++ vs)) := ⟨L, B, s.pushR s.val⟩
  exact St.rot (is := [.v d, ix]) (ws := [y, x]) rfl s2
theorem chain_ {r r' : R2} {ta tb tc : TE} (h : GE c ρ n ds ta fun ix ρ1 n1 => GE c ρ1 n1 (ix :: ds) tb fun iy ρ2 n2 => ∃ d, iy = .v d ∧ GO c ρ2 n2 (.v d :: ds) r ix (.v d) fun iz ρ3 n3 => ∃ b, iz = .v (.bl b) ∧ if b = true then GE c ρ3 n3 (.v d :: ds) tc fun iw ρ4 n4 => GO c ρ4 n4 ds r' (.v d) iw Q else Q (.v (.bl false)) ρ3 n3) : GE c ρ n ds (tChain r r' ta tb tc) Q := fun σ H vs F s k =>
  h σ H vs _ s fun ix ρ1 n1 x H1 q1 s1 => q1 σ H1 (x :: vs) _ s1 fun iy ρ2 n2 y H2 ⟨d, e, q2⟩ s2 => by
    subst e
    refine q2 σ H2 (y :: vs) x y _ s2.dup fun iz ρ3 n3 z H3 ⟨b, e, q3⟩ s3 => ?_
    subst e
    obtain rfl := R.eBl s3.one
    refine ⟨b, rfl, ?_⟩
    cases b with
    | true => rw [if_pos rfl] at q3 ⊢; exact q3 σ H3 (y :: vs) _ s3.pop fun iw ρ4 n4 w H4 q4 s4 => q4 σ H4 vs y w F s4 k
    | false => rw [if_neg Bool.false_ne_true] at q3 ⊢; exact k _ _ _ _ _ q3 (s3.pop.pop.pushS rfl)
def GC (c : Wd K) (ρ : List S) (n : Nat) (ds : List I) (t : V → TE) (d : D) (Q : QI) : Prop :=
  ∀ σ H vs x (F : VK), St c ρ n (.v d :: ds) σ H (x :: vs) → (∀ it ρ' n' v H', Q it ρ' n' → St c ρ' n' (it :: ds) σ H' (v :: vs) → F v H') → t x σ H F
def GC2 (c : Wd K) (ρ : List S) (n : Nat) (ds : List I) (t : V → TT) (d : D) (Q : Bool → QS) : Prop :=
  ∀ σ H vs x (F : Bool → Hp → Prop), St c ρ n (.v d :: ds) σ H (x :: vs) → (∀ b ρ' n' H', Q b ρ' n' → St c ρ' n' ds σ H' vs → F b H') → t x σ H F
theorem ch_ {ta : TE} {t : V → TE} (h : GE c ρ n ds ta fun ix ρ1 n1 => ∃ d, ix = .v d ∧ GC c ρ1 n1 ds t d Q) : GE c ρ n ds (HP.tCh ta t) Q := fun σ H vs F s k =>
  h σ H vs _ s fun ix ρ1 n1 x H1 ⟨d, e, q1⟩ s1 => by subst e; exact q1 σ H1 vs x F s1 k
theorem ch2_ {ta : TE} {t : V → TT} (h : GE c ρ n ds ta fun ix ρ1 n1 => ∃ d, ix = .v d ∧ GC2 c ρ1 n1 ds t d QB) : GT c ρ n ds (HP.tCh2 ta t) QB := fun σ H vs F s k =>
  h σ H vs _ s fun ix ρ1 n1 x H1 ⟨d, e, q1⟩ s1 => by subst e; exact q1 σ H1 vs x F s1 k
theorem chL_ {r : R2} {tb : TE} {d : D} (h : GE c ρ n (.v d :: ds) tb fun iy ρ2 n2 => GO c ρ2 n2 ds r (.v d) iy Q) : GC c ρ n ds (HP.tChL r tb) d Q := fun σ H vs x F s k =>
  h σ H (x :: vs) _ s fun iy ρ2 n2 y H2 q2 s2 => q2 σ H2 vs x y F s2 k
theorem chL2_ {r : R2} {tb : TE} {d : D} (h : GE c ρ n (.v d :: ds) tb fun iy ρ2 n2 => GO c ρ2 n2 ds r (.v d) iy fun iz ρ3 n3 => ∃ b, iz = .v (.bl b) ∧ QB b ρ3 n3) : GC2 c ρ n ds (HP.tChL2 r tb) d QB := fun σ H vs x F s k =>
  h σ H (x :: vs) _ s fun iy ρ2 n2 y H2 q2 s2 => q2 σ H2 vs x y _ s2 fun iz ρ3 n3 z H3 ⟨b, e, q3⟩ s3 => by
    subst e
    obtain rfl := R.eBl s3.one
    exact ⟨b, rfl, k _ _ _ _ q3 s3.pop⟩
theorem chC_ {r : R2} {tb : TE} {t : V → TE} {d : D} (h : GE c ρ n (.v d :: ds) tb fun iy ρ2 n2 => ∃ e, iy = .v e ∧ GO c ρ2 n2 (.v e :: ds) r (.v d) (.v e) fun iz ρ3 n3 => ∃ b, iz = .v (.bl b) ∧ if b = true then GC c ρ3 n3 ds t e Q else Q (.v (.bl false)) ρ3 n3) : GC c ρ n ds (HP.tChC r tb t) d Q := fun σ H vs x F s k =>
  h σ H (x :: vs) _ s fun iy ρ2 n2 y H2 ⟨e, he, q2⟩ s2 => by
    subst he
    refine q2 σ H2 (y :: vs) x y _ s2.dup fun iz ρ3 n3 z H3 ⟨b, eb, q3⟩ s3 => ?_
    subst eb
    obtain rfl := R.eBl s3.one
    refine ⟨b, rfl, ?_⟩
    cases b with
    | true => rw [if_pos rfl] at q3 ⊢; exact q3 σ H3 vs y F s3.pop k
    | false => rw [if_neg Bool.false_ne_true] at q3 ⊢; exact k _ _ _ _ _ q3 (s3.pop.pop.pushS rfl)
theorem chC2_ {r : R2} {tb : TE} {t : V → TT} {d : D} (h : GE c ρ n (.v d :: ds) tb fun iy ρ2 n2 => ∃ e, iy = .v e ∧ GO c ρ2 n2 (.v e :: ds) r (.v d) (.v e) fun iz ρ3 n3 => ∃ b, iz = .v (.bl b) ∧ if b = true then GC2 c ρ3 n3 ds t e QB else QB false ρ3 n3) : GC2 c ρ n ds (HP.tChC2 r tb t) d QB := fun σ H vs x F s k =>
  h σ H (x :: vs) _ s fun iy ρ2 n2 y H2 ⟨e, he, q2⟩ s2 => by
    subst he
    refine q2 σ H2 (y :: vs) x y _ s2.dup fun iz ρ3 n3 z H3 ⟨b, eb, q3⟩ s3 => ?_
    subst eb
    obtain rfl := R.eBl s3.one
    refine ⟨b, rfl, ?_⟩
    cases b with
    | true => rw [if_pos rfl] at q3 ⊢; exact q3 σ H3 vs y F s3.pop k
    | false => rw [if_neg Bool.false_ne_true] at q3 ⊢; exact k _ _ _ _ q3 s3.pop.pop
/-! ### a new thing of nobody's from outside -/
theorem StX.ownNew {m : Nat} {H2 : Hp} {d : D} (s : StX c L B ρ n ds σ H vs) (k : Kept c.g H H2) (h : Hat H2 c.g c.k c.ns m) (hp : H p = none) (r : RO K c.g (fun a => Mo c (L ++ B) a ∨ a = p) H2 p d) : StX c L ([p] ++ B) ρ m (.o d :: ds) σ H2 (.ref p :: vs) := by
  have np : ¬ Mo c (L ++ B) p := s.free hp
  have npl : p ∉ L ++ B := fun z => np (.inr z)
  have hc : c.H0 p = none := by
    cases z : c.H0 p with
    | none => rfl
    | some o =>
      have : p ≠ c.g := fun e => np (.inl (e ▸ s.mg))
      have := s.kp _ _ this z
      rw [hp] at this; cases this
  have mv : Mv (Mo c (L ++ B)) (Mo c (L ++ ([p] ++ B))) H H2 := fun a o na ho => by
    have ng : a ≠ c.g := fun e => na (.inl (e ▸ s.mg))
    refine ⟨fun z => ?_, k a o ng ho⟩
    rcases z with z | z
    · exact na (.inl z)
    · simp only [List.mem_append, List.mem_singleton] at z
      rcases z with z | z | z
      · exact na (.inr (List.mem_append_left _ z))
      · rw [z, hp] at ho; cases ho
      · exact na (.inr (List.mem_append_right _ z))
  have hk : ∀ a ∈ L ++ B, ∀ o, H a = some o → H2 a = some o := fun a ha o ho => k a o (fun z => (s.fr a ha).1 (z ▸ s.mg)) ho
  refine ⟨s.sl.mv mv fun a ha => hk a (List.mem_append_left _ ha), .cons (l := [p]) (.o (r.mv (mv_less fun a ha => ?_) fun _ h => h)) (s.it.mv mv fun a ha => hk a (List.mem_append_right _ ha)), ?_, fun a ha => ?_, s.kp.trans k, h, s.mg, s.ml, s.md⟩
  · rcases ha with ha | ha
    · exact .inl (.inl ha)
    · simp only [List.mem_append, List.mem_singleton] at ha
      rcases ha with z | z | z
      · exact .inl (.inr (List.mem_append_left _ z))
      · exact .inr z
      · exact .inl (.inr (List.mem_append_right _ z))
  · exact (List.perm_middle (a := p) (l₁ := L) (l₂ := B)).nodup_iff.mpr (List.nodup_cons.mpr ⟨npl, s.nd⟩)
  · simp only [List.mem_append, List.mem_singleton] at ha
    rcases ha with z | z | z
    · exact s.fr a (List.mem_append_left _ z)
    · rw [z]; exact ⟨fun q => np (.inl q), hc⟩
    · exact s.fr a (List.mem_append_right _ z)
/-! ### calls by names -/
def permD (idx : List Nat) (ds : List D) : List D := if ds.length = idx.length then idx.map fun i => ds.getD i .non else []
theorem RA.getD {ws : List V} {ds : List D} (h : RA K g M H ws ds) (i : Nat) : R K g M H (ws.getD i .non) (ds.getD i .non) := by
  cases e : ds[i]? with
  | none =>
    have h1 : ds.length ≤ i := List.getElem?_eq_none_iff.mp e
    rw [List.getD_eq_getElem?_getD, List.getD_eq_getElem?_getD, e, List.getElem?_eq_none (by rw [h.len]; exact h1)]
    exact .non
  | some d =>
    obtain ⟨w, hw, r⟩ := h.at e
    rw [List.getD_eq_getElem?_getD, List.getD_eq_getElem?_getD, e, hw]
    exact r
theorem RA.perm {idx : List Nat} {ws : List V} {ds : List D} (h : RA K g M H ws ds) : RA K g M H (HB.perm idx .non [] ws) (permD idx ds) := by
  unfold HB.perm permD
  rw [h.len]
  by_cases e : ds.length = idx.length
  · rw [if_pos ⟨rfl, e⟩, if_pos e]
    clear e
    induction idx with
    | nil => exact .nil
    | cons i t ih => exact .cons (h.getD i) ih
  · rw [if_neg (fun z => e z.2), if_neg e]; exact .nil
theorem callG {sp : SpD} {gV : List V → List V} {gD : List D → List D} (hg : ∀ {g M H ws ds}, RA K g M H ws ds → RA K g M H (gV ws) (gD ds)) {t : TA} (h : GA c ρ n ds t fun its ρ' n' => sp (gD (its.map I.val)) n' (fun it n2 => Q it (frz its ρ') n2) fun _ _ _ => False) : GE c ρ n ds (fun σ H F => t σ H fun vs H1 => lift K sp (gV vs) H1 F E0) Q := fun σ H vs F s k =>
  h σ H vs _ s fun its ρ' n' xs H' q hl s' => by
    obtain ⟨L, B, s2, ra⟩ := items hl s'
    refine ⟨⟨c.g, c.k, c.ns, Mo c (L ++ B), H'⟩, n', _, _, _, ⟨rfl, s2.hat, .inl s2.mg, .inl s2.ml, s2.at, hg ra, fun it m v H2 q2 k2 h2 r2 => ?_, fun C fs n' x H' z => z.elim⟩, q⟩
    cases it with
    | v d => exact k _ _ _ _ _ q2 ⟨L, B, (s2.kept k2 h2).pushR r2⟩
    | b _ _ => exact r2.elim
    | o ys =>
      obtain ⟨p, rfl, hp, np, rr⟩ := r2
      exact k _ _ _ _ _ q2 ⟨L, _, s2.ownNew k2 h2 hp rr⟩
theorem callK_ {sp : SpD} {idx : List Nat} {t : TA} (h : GA c ρ n ds t fun its ρ' n' => sp (permD idx (its.map I.val)) n' (fun it n2 => Q it (frz its ρ') n2) fun _ _ _ => False) : GE c ρ n ds (HB.tCallN0 (lift K sp) (HB.perm idx .non) E0 t) Q := callG (gV := HB.perm idx .non []) (gD := permD idx) (fun r => r.perm) h
/-! ### constructors -/
abbrev SpI := List D → Nat → (List (Str × D) → Nat → Prop) → XD → Prop
def del (H : Hp) (x : Addr) : Hp := fun b => if b = x then none else H b
structure InitOk (c : Wd K) (H : Hp) (x C dx : Addr) (n : Nat) (ws : List V) (ds : List D) (Q : VK) (E : XK) (Qd : List (Str × D) → Nat → Prop) (Ed : XD) : Prop where
  h0 : c.H0 = del H x
  hx : H x = some (.ins C dx [])
  nx : ¬ c.M0 x
  hat : Hat H c.g c.k c.ns n
  mg : c.M0 c.g
  ml : c.M0 c.k
  md : ∀ a, c.M0 a → ∃ o, H a = some o
  ra : RA K c.g (fun a => c.M0 a ∨ a = x) H ws ds
  q : ∀ fs n' H', Qd fs n' → Kept c.g c.H0 H' → Hat H' c.g c.k c.ns n' → RO K c.g (fun a => c.M0 a ∨ a = x) H' x (.ins C fs) → Q .non H'
def liftI (K : PySem.W.Frag) (C : Addr) (sp : SpI) : Sp := fun vs H Q E => ∃ (c : Wd K) (n : Nat) (x dx : Addr) (ws : List V) (ds : List D) (Qd : List (Str × D) → Nat → Prop) (Ed : XD), vs = .ref x :: ws ∧ InitOk c H x C dx n ws ds Q E Qd Ed ∧ sp ds n Qd Ed
theorem make_ {C : Addr} {sp : SpI} {t : TA} (h : GA c ρ n ds t fun its ρ' n' => sp (its.map I.val) n' (fun fs n2 => Q (.o (.ins C fs)) (frz its ρ') n2) fun _ _ _ => False) : GE c ρ n ds (StX.tMakeR C (liftI K C sp) E0 t) Q := fun σ H vs F s k =>
  h σ H vs _ s fun its ρ' n' xs H' q hl s' => by
    intro x dx hx hdx hne
    obtain ⟨L, B, s2, ra⟩ := items hl s'
    have nmx : ¬ Mo c (L ++ B) x := s2.free hx
    have nmd : ¬ Mo c (L ++ B) dx := s2.free hdx
    have sm : Same H' (upd (upd H' dx (.own x)) x (.ins C dx [])) := fun b o hb => by
      rw [upd_ne (ne_of_none hb hx), upd_ne (ne_of_none hb hdx)]; exact hb
    have ra2 : RA K c.g (fun a => Mo c (L ++ B) a ∨ a = x) (upd (upd H' dx (.own x)) x (.ins C dx [])) xs (its.map I.val) := ra.mv fun a o na ho => ⟨fun z => z.elim na fun e => (by rw [e, hx] at ho; cases ho), sm a o ho⟩
    have fin : ∀ fs m H2, Q (.o (.ins C fs)) (frz its ρ') m → Kept c.g (del (upd (upd H' dx (.own x)) x (.ins C dx [])) x) H2 → Hat H2 c.g c.k c.ns m → RO K c.g (fun a => Mo c (L ++ B) a ∨ a = x) H2 x (.ins C fs) → F (.ref x) H2 := fun fs m H2 q2 k2 h2 r2 => by
      refine k _ _ _ _ _ q2 ⟨L, _, s2.ownNew (fun b o nb hb => k2 b o nb ?_) h2 hx r2⟩
      have : b ≠ x := ne_of_none hb hx
      show (if b = x then none else _) = _
      rw [if_neg this]
      exact sm b o hb
    have md : ∀ a, Mo c (L ++ B) a → ∃ o, (upd (upd H' dx (.own x)) x (.ins C dx [])) a = some o := fun a ha => by
      obtain ⟨o, ho⟩ := s2.at a ha
      exact ⟨o, sm a o ho⟩
    exact ⟨⟨c.g, c.k, c.ns, Mo c (L ++ B), del (upd (upd H' dx (.own x)) x (.ins C dx [])) x⟩, n', x, dx, xs, _, _, _, rfl, ⟨rfl, upd_same, nmx, s2.hat.same sm, .inl s2.mg, .inl s2.ml, md, ra2, fun fs m H2 q2 k2 h2 r2 => ⟨rfl, fin fs m H2 q2 k2 h2 r2⟩⟩, q⟩
/-- into the body of an __init__ -/
theorem enterI {H : Hp} {x C dx : Addr} {ws : List V} {es : List D} {Q : VK} {E : XK} {Qd : List (Str × D) → Nat → Prop} {Ed : XD} {σ : L2.St} {R : L2.St → Hp → Prop} (k : InitOk c H x C dx n ws es Q E Qd Ed) {m : Nat} (eσ : σ = (V.ref x :: ws).map some ++ List.replicate m none)
    (h : ∀ L, StX c L [] (.me x (.ins C []) :: (es.map S.v ++ List.replicate m S.un)) n [] σ H [] → R σ H) : R σ H := by
  refine h [x] ⟨?_, .nil, ?_, fun a ha => ?_, ?_, k.hat, k.mg, k.ml, fun a ha => ?_⟩
  · rw [eσ]
    have mo : Mo c ([x] ++ []) = fun a => c.M0 a ∨ a = x := by
      funext a
      refine propext ⟨fun z => z.elim .inl fun z => .inr (by simpa using z), fun z => z.elim .inl fun z => .inr (by simpa using z)⟩
    rw [mo]
    refine SRs.cons (l := [x]) (.me ⟨dx, _, k.hx, .nil⟩) ?_
    have ra := k.ra
    clear k h eσ
    have un : ∀ m : Nat, SRs K c.g (fun a => c.M0 a ∨ a = x) H (List.replicate m S.un) [] (List.replicate m none) := fun m => by
      induction m with
      | zero => exact .nil
      | succ m ih => exact .cons (l := []) (.un _) ih
    induction es generalizing ws with
    | nil => cases ra; exact un m
    | cons d ds ih => cases ra with | cons a b => exact .cons (l := []) (.v a) (ih b)
  · exact List.nodup_cons.mpr ⟨(fun z => by cases z), List.nodup_nil⟩
  · have : a = x := by simpa using ha
    subst this
    refine ⟨k.nx, ?_⟩
    rw [k.h0]; unfold del; rw [if_pos rfl]
  · rw [k.h0]
    intro b o nb hb
    unfold del at hb
    split at hb
    · cases hb
    · exact hb
  · obtain ⟨o, ho⟩ := k.md a ha
    rw [k.h0]
    refine ⟨o, ?_⟩
    unfold del
    rw [if_neg (fun e : a = x => k.nx (e ▸ ha))]
    exact ho
/-- out of it -/
theorem leaveI {H0 H : Hp} {x C dx : Addr} {ws : List V} {es : List D} {Q : VK} {E : XK} {Qd : List (Str × D) → Nat → Prop} {Ed : XD} {fs : List (Str × D)} (k : InitOk c H0 x C dx n ws es Q E Qd Ed) {m : Nat} (s : St c ρ m [] σ H vs) (h0 : ρ[0]? = some (.me x (.ins C fs))) (q : Qd fs m) : Q .non H := by
  obtain ⟨L, B, s⟩ := s
  obtain ⟨L1, l, L2, y, e1, e2, e3, _⟩ := s.sl.at h0
  cases e3 with
  | me r =>
    refine k.q fs m H q s.kp s.hat (r.mv (fun b o nb ho => ⟨fun z => nb (z.elim .inl fun e => .inr ?_), ho⟩) fun _ h => h)
    rw [e, e1]; simp
def SM (K : PySem.W.Frag) (ds : List I) (f : Str) (it io : I) (ρ2 : List S) (n2 : Nat) (nx : QS) : Prop := ∃ i d0 x C fs, io = .b i d0 ∧ clean ds = true ∧ (frz1 ρ2 it)[i]? = some (.me x (.ins C fs)) ∧ Cls K C ∧ NoAttr K C f ∧ Nat.ble fs.length 900 = true ∧ nx ((frz1 ρ2 it).set i (.me x (.ins C (putD f it.val fs)))) n2
theorem setM_ {ta tv : TE} {f : Str} {nx bk ct : QS} {rt : I → Nat → Prop} (h : GE c ρ n ds tv fun it ρ1 n1 => GE c ρ1 n1 (it :: ds) ta fun io ρ2 n2 => SM K ds f it io ρ2 n2 nx) : GS c ρ n ds (sFld K ta tv f) ⟨nx, rt, bk, ct⟩ := fun σ H vs E s k =>
  h σ H vs _ s fun it ρ1 n1 y H1 q1 s1 => q1 σ H1 (y :: vs) _ s1 fun io ρ2 n2 x H2 ⟨i, d0, x0, C, fs, e, hc, hi, hC, hn, hl, q⟩ s2 => by
    subst e
    have s3 := St.frz1 (St.rot' (is := [.b i d0]) (ws := [x]) rfl s2)
    obtain ⟨L, B, s3⟩ := s3
    have hv := s3.val
    have hs : σ[i]? = some (some x) := slotOf s3
    obtain ⟨B', lx, ly, s4, mv, _, _⟩ := s3.it2
    obtain ⟨e1, ⟨dx, fv, ha, rf⟩, w⟩ := s4.wrM hc hi
    rw [hs] at e1; cases e1
    have := Nat.le_of_ble_eq_true hl
    have hlen := rf.len
    exact ⟨_, C, dx, fv, rfl, ha, hC, hn, by omega, k.nx _ _ _ _ q ⟨L, B', w fun m => ⟨dx, _, upd_same, (rf.put (hv.mv mv)).mv m⟩⟩⟩
/-- the base's __init__ first -/
theorem super_ {H : Hp} {x C : Addr} {ta : TA} {tr : TS} {spB : SpI} {D : Es} {E : Ends} (hds : ds = []) (h : GA c ρ n [] ta fun its ρ' n' => (frz its ρ')[0]? = some (.me x (.ins C [])) ∧ spB (its.map I.val) n' (fun fs n2 => GS c ((frz its ρ').set 0 (.me x (.ins C fs))) n2 [] tr D) fun _ _ _ => False)
    (s : St c ρ n [] σ H []) (k : EOk c [] [] D E) : ta σ H fun us H1 => liftI K C spB (.ref x :: us) H1 (fun _ H2 => tr E σ H2) E0 := by
  refine h σ H [] _ s fun its ρ' n' xs H1 ⟨h0, q⟩ hl s1 => ?_
  rw [List.append_nil, List.append_nil] at s1
  have s1' : St c ρ' n' (its ++ []) σ H1 (xs ++ []) := by rw [List.append_nil, List.append_nil]; exact s1
  obtain ⟨L, B, s2, ra⟩ := items hl s1'
  generalize frz its ρ' = ρ2 at h0 q s2
  have hl0 : 0 < ρ2.length := (List.getElem?_eq_some_iff.mp h0).1
  obtain ⟨L1, l, L2, y, e1, e2, e3, e4⟩ := s2.sl.atM h0
  cases e3 with
  | @me a _ r =>
    subst e1
    obtain ⟨dx, fv, hx, rf⟩ := r
    cases rf
    -- what else may change outside
    have nd : x ∉ (L1 ++ L2) ++ B := by
      have pm : ((L1 ++ ([x] ++ L2)) ++ B).Perm (x :: ((L1 ++ L2) ++ B)) := by
        rw [show L1 ++ ([x] ++ L2) = L1 ++ x :: L2 from rfl, List.append_assoc, List.append_assoc]
        exact List.perm_middle
      exact (List.nodup_cons.mp (pm.nodup_iff.mp s2.nd)).1
    have hm : x ∈ (L1 ++ ([x] ++ L2)) ++ B := by simp
    have nx : ¬ Mo c ((L1 ++ L2) ++ B) x := fun z => z.elim (s2.fr x hm).1 nd
    have sub : ∀ b ∈ (L1 ++ L2) ++ B, b ∈ (L1 ++ ([x] ++ L2)) ++ B := fun b hb => by
      simp only [List.mem_append, List.mem_singleton] at hb ⊢
      rcases hb with (z | z) | z
      · exact .inl (.inl z)
      · exact .inl (.inr (.inr z))
      · exact .inr z
    have mo : ∀ a, Mo c ((L1 ++ L2) ++ B) a ∨ a = x → Mo c ((L1 ++ ([x] ++ L2)) ++ B) a := fun a z => z.elim (mo_less sub a) fun e => .inr (by rw [e]; exact hm)
    have om : ∀ a, Mo c ((L1 ++ ([x] ++ L2)) ++ B) a → Mo c ((L1 ++ L2) ++ B) a ∨ a = x := fun a z => by
      rcases z with z | z
      · exact .inl (.inl z)
      · simp only [List.mem_append, List.mem_singleton] at z
        rcases z with (z | z | z) | z
        · exact .inl (.inr (by simp [z]))
        · exact .inr z
        · exact .inl (.inr (by simp [z]))
        · exact .inl (.inr (by simp [z]))
    refine ⟨⟨c.g, c.k, c.ns, Mo c ((L1 ++ L2) ++ B), del H1 x⟩, n', x, dx, xs, _, _, _, rfl, ⟨rfl, hx, nx, s2.hat, .inl s2.mg, .inl s2.ml, fun a ha => s2.at a (mo_less sub a ha), ra.mv (mv_less mo), fun fs m H2 q2 k2 h2 r2 => ?_⟩, q⟩
    refine q2 σ H2 [] E ?_ k
    have kk : ∀ b o, b ≠ x → b ≠ c.g → H1 b = some o → H2 b = some o := fun b o nb ng hb => k2 b o ng (by show (if b = x then none else H1 b) = some o; rw [if_neg nb]; exact hb)
    have hag : x ≠ c.g := fun e => (s2.fr x hm).1 (e ▸ s2.mg)
    have mv : Mv (Mo c ((L1 ++ ([x] ++ L2)) ++ B)) (Mo c ((L1 ++ ([x] ++ L2)) ++ B)) H1 H2 := fun b o nb hb => ⟨nb, kk b o (fun e => nb (.inr (e ▸ hm))) (fun e => nb (.inl (e ▸ s2.mg))) hb⟩
    have hk : ∀ b ∈ (L1 ++ L2) ++ B, ∀ o, H1 b = some o → H2 b = some o := fun b hb o ho => kk b o (fun e => nd (e ▸ hb)) (fun e => (s2.fr b (sub b hb)).1 (e ▸ s2.mg)) ho
    have sl1 := e4 (l' := [x]) mv (fun b hb => hk b (List.mem_append_left _ hb)) (SR.me (r2.mv (mv_less om) fun _ h => h))
    rw [show σ.set 0 (some (V.ref x)) = σ by
      obtain ⟨h1, h2⟩ := List.getElem?_eq_some_iff.mp e2
      rw [← h2, List.set_getElem_self]] at sl1
    refine ⟨L1 ++ ([x] ++ L2), B, sl1, ?_, s2.nd, s2.fr, ?_, h2, s2.mg, s2.ml, s2.md⟩
    · have := (s2.it.mv mv fun b hb => hk b (List.mem_append_right _ hb))
      exact this.clean rfl
    · intro b o nb hb
      have : b ≠ x := fun e => by have := (s2.fr x hm).2; rw [← e, hb] at this; cases this
      exact kk b o this nb (s2.kp b o nb hb)
/-! ### == and != by an own __eq__, truth by an own __bool__ -/
theorem eqO_ {neg : Bool} {f : Addr} {sp : SpD} {ix iy : I} {C E : Addr} {fs gs : List (Str × D)} (ex : ix.val = .ins C fs) (ey : iy.val = .ins E gs) (ec : HP.EqCls K C E f) (h : sp [ix.val, iy.val] n (fun it n2 => ∃ r, it = .v (.bl r) ∧ Q (.v (.bl (if neg then !r else r))) (frz [iy, ix] ρ) n2) fun _ _ _ => False) : GO c ρ n ds (HP.rEqO neg K f (lift K sp)) ix iy Q := fun σ H vs x y F s k => by
  obtain ⟨L, B, s2, ra⟩ := items (is := [iy, ix]) (ws := [y, x]) rfl s
  cases ra with
  | cons ry rr =>
  cases rr with
  | cons rx r0 =>
  have rx' := rx
  have ry' := ry
  rw [ex] at rx'; rw [ey] at ry'
  cases rx' with
  | @ins a _ dx fv _ na ha rf =>
  cases ry' with
  | @ins b _ dy gv _ nb hb rg =>
  refine ⟨a, b, C, dx, fv, E, dy, gv, rfl, rfl, ha, hb, ec, ?_⟩
  refine ⟨⟨c.g, c.k, c.ns, Mo c (L ++ B), H⟩, n, _, _, _, ⟨rfl, s2.hat, .inl s2.mg, .inl s2.ml, s2.at, .cons rx (.cons ry .nil), fun it m v H2 q2 k2 h2 r2 => ?_, fun C fs n' x H' z => z.elim⟩, h⟩
  obtain ⟨r, e, q⟩ := q2
  subst e
  cases (show R K c.g _ H2 v (.bl r) from r2)
  exact ⟨r, rfl, k _ _ _ _ _ q ⟨L, B, (s2.kept k2 h2).pushR (.bl _)⟩⟩
/-- a test by a value's own truth -/
theorem tru_ {ta : TE} {r : V → Hp → (Bool → Hp → Prop) → Prop} (h : GE c ρ n ds ta fun it ρ' n' => ∃ C fs b, it.val = .ins C fs ∧ (∀ (a dx : Addr) (fv : List (Str × V)) (H : Hp) (F : Bool → Hp → Prop), H a = some (.ins C dx fv) → F b H → r (.ref a) H F) ∧ QB b ρ' n') : GT c ρ n ds (fun σ H Q => ta σ H fun x H' => r x H' Q) QB := fun σ H vs F s k =>
  h σ H vs _ s fun it ρ' n' x H' ⟨C, fs, b, e, hr, q⟩ ⟨L, B, s⟩ => by
    obtain ⟨B', lx, s2, mv, hx⟩ := s.it1
    obtain ⟨a, dx, fv, rfl, ha, rf⟩ := hx.ins s.sl e
    exact hr a dx fv H' F ha (k _ _ _ _ q ⟨L, B', s2⟩)
def truD : D → Option Bool
  | .non => some false
  | .bl b => some b
  | .int i => some (i != 0)
  | .lst xs => some (!xs.isEmpty)
  | .tup xs => some (!xs.isEmpty)
  | _ => none
theorem RA.emp {ws : List V} {xs : List D} (h : RA K g M H ws xs) : (!xs.isEmpty) = !ws.isEmpty := by cases h <;> rfl
theorem R.tru {b : Bool} {d : D} (h : R K g M H v d) (e : truD d = some b) : TruV K v H b := by
  cases h with
  | non => cases e; rfl
  | bl b => cases e; rfl
  | int i => cases e; rfl
  | lst n h1 h2 => cases e; exact .inl ⟨_, SqL.of h1, h2.emp⟩
  | tup h1 h2 => cases e; exact .inr (.inl ⟨_, h1.sqt, h2.emp⟩)
  | _ => cases e
theorem trv_ {ta : TE} (h : GE c ρ n ds ta fun it ρ' n' => ∃ b, truD it.val = some b ∧ QB b ρ' n') : GT c ρ n ds (fun σ H Q => ta σ H fun x H' => ∃ k, TruV K x H' k ∧ Q k H') QB := fun σ H vs F s k =>
  h σ H vs _ s fun it ρ' n' x H' ⟨b, e, q⟩ ⟨L, B, s⟩ => by
    obtain ⟨B', lx, s2, mv, hx⟩ := s.it1
    have fin := k _ _ _ _ q ⟨L, B', s2⟩
    refine ⟨b, ?_, fin⟩
    rcases hx.cases s.sl with r | ⟨a, rfl, r⟩
    · exact r.tru e
    · generalize it.val = d at r e
      cases d <;> first | exact r.elim | (cases e; done) | skip
      · cases e; obtain ⟨_, h1, h2⟩ := r; exact .inl ⟨_, SqL.of h1, h2.emp⟩
end
end HD
/-! what the laws share: draws, fixed values, papers -/
namespace HD
open PySem PySem.Spec PyProof.Rows L2 HX
/-! ### steps that the tactic words use -/
section
variable {K : PySem.W.Frag} {c : Wd K} {ρ : List S} {n : Nat} {ds : List I} {Q : QI} {QG : QS}
theorem varV_ {i : Nat} {d : D} (e : ρ[i]? = some (.v d)) (h : Q (.v d) ρ n) : GE c ρ n ds (tVar i) Q := varG_ (by rw [e]; exact h)
theorem varO_ {i : Nat} {d : D} (e : ρ[i]? = some (.ow d)) (h : Q (.b i d) ρ n) : GE c ρ n ds (tVar i) Q := varG_ (by rw [e]; exact h)
theorem varM_ {i : Nat} {a : Addr} {d : D} (e : ρ[i]? = some (.me a d)) (h : Q (.b i d) ρ n) : GE c ρ n ds (tVar i) Q := varG_ (by rw [e]; exact h)
theorem ble_ {a b : Nat} {P : Prop} (e : Nat.ble a b = true) (h : P) : Nat.ble a b = true ∧ P := ⟨e, h⟩
theorem exbl_ {b : Bool} {P : Bool → Prop} (h : P b) : ∃ b', I.v (.bl b) = I.v (.bl b') ∧ P b' := ⟨b, rfl, h⟩
theorem exint_ {b : Int} {P : Int → Prop} (h : P b) : ∃ b', I.v (.int b) = I.v (.int b') ∧ P b' := ⟨b, rfl, h⟩
theorem exv_ {d : D} {P : D → Prop} (h : P d) : ∃ e, I.v d = I.v e ∧ P e := ⟨d, rfl, h⟩
theorem exlst_ {it : I} {xs : List D} {P : List D → Prop} (e : it.val = .lst xs) (h : P xs) : ∃ xs, it.val = .lst xs ∧ P xs := ⟨xs, e, h⟩
theorem extup_ {xs : List D} {P : List D → Prop} (h : P xs) : ∃ ys, I.v (.tup xs) = I.v (.tup ys) ∧ P ys := ⟨xs, rfl, h⟩
theorem ex1int_ {i : Int} {P : Int → Prop} (h : P i) : ∃ j, [I.v (.int i)] = [I.v (.int j)] ∧ P j := ⟨i, rfl, h⟩
theorem ex2int_ {i j : Int} {P : Int → Int → Prop} (h : P i j) : ∃ a b, [I.v (.int i), I.v (.int j)] = [I.v (.int a), I.v (.int b)] ∧ P a b := ⟨i, j, rfl, h⟩
theorem ex2_ {x y : I} {P : I → I → Prop} (h : P x y) : ∃ a b, [x, y] = [a, b] ∧ P a b := ⟨x, y, rfl, h⟩
theorem ex3_ {x y z : I} {P : I → I → I → Prop} (h : P x y z) : ∃ a b d, [x, y, z] = [a, b, d] ∧ P a b d := ⟨x, y, z, rfl, h⟩
theorem exty_ {T : String} {it : I} {P : Prop} (e : tyD T it.val) (h : P) : tyD T it.val ∧ P := ⟨e, h⟩
theorem true_ {P : Prop} (h : P) : (true = true) ∧ P := ⟨rfl, h⟩
theorem gunlE_ {m : Nat} {gs : TGs} {it : I} {xs : List D} (e : it.val = .lst xs) (hl : xs.length = m) (h : GGs c ρ n ds gs (xs.map I.v) QG) : GG c ρ n ds (gUnl K m gs) it QG := gunl_ e hl h
/-! ### comprehensions that change nothing else -/
theorem CpD.mapD {own : List Nat} {g : TG} {tt : TT} {te : TE} {Q : List D → QS} {xs : List D} (f : D → D) (hl : xs.length ≤ 100000)
    (hs : ∀ x ∈ xs, ∀ ys, GW c ρ n (.o (.lst ys) :: ds) own g (.v x) fun ρ1 n1 => GT c ρ1 n1 (.o (.lst ys) :: ds) tt fun b ρ2 n2 => b = true ∧ GE c ρ2 n2 (.o (.lst ys) :: ds) te fun it ρ3 n3 => it.val = f x ∧ HD.unset own (HD.frz1 ρ3 it) = ρ ∧ n3 = n)
    (hd : Q (xs.map f) ρ n) : CpD c ds own g tt te Q xs [] ρ n := by
  refine CpD.inv (fun i ys ρ' n' => ys = (xs.take i).map f ∧ ρ' = ρ ∧ n' = n) ⟨rfl, rfl, rfl⟩ (fun i x ys ρ' n' hx hi p => ?_) fun ys ρ' n' p => ?_
  · obtain ⟨rfl, rfl, rfl⟩ := p
    refine (hs x (List.mem_of_getElem? hx) _).mono fun ρ1 n1 q => q.mono fun b ρ2 n2 q2 => ?_
    obtain ⟨rfl, q2⟩ := q2
    rw [if_pos rfl]
    refine q2.mono fun it ρ3 n3 q3 => ⟨Nat.ble_eq_true_of_le (by rw [List.length_map, List.length_take]; omega), ?_, q3.2.1, q3.2.2⟩
    rw [q3.1, List.take_add_one, hx, List.map_append]; rfl
  · obtain ⟨rfl, rfl, rfl⟩ := p
    rw [List.take_length]; exact hd
theorem CpD.filD {own : List Nat} {g : TG} {tt : TT} {te : TE} {Q : List D → QS} {xs : List D} (p : D → Bool) (f : D → D) (hl : xs.length ≤ 100000)
    (hs : ∀ x ∈ xs, ∀ ys, GW c ρ n (.o (.lst ys) :: ds) own g (.v x) fun ρ1 n1 => GT c ρ1 n1 (.o (.lst ys) :: ds) tt fun b ρ2 n2 => b = p x ∧ if p x = true then GE c ρ2 n2 (.o (.lst ys) :: ds) te fun it ρ3 n3 => it.val = f x ∧ HD.unset own (HD.frz1 ρ3 it) = ρ ∧ n3 = n else HD.unset own ρ2 = ρ ∧ n2 = n)
    (hd : Q ((xs.filter p).map f) ρ n) : CpD c ds own g tt te Q xs [] ρ n := by
  refine CpD.inv (fun i ys ρ' n' => ys = ((xs.take i).filter p).map f ∧ ρ' = ρ ∧ n' = n) ⟨rfl, rfl, rfl⟩ (fun i x ys ρ' n' hx hi q => ?_) fun ys ρ' n' q => ?_
  · obtain ⟨rfl, rfl, rfl⟩ := q
    refine (hs x (List.mem_of_getElem? hx) _).mono fun ρ1 n1 q => q.mono fun b ρ2 n2 q2 => ?_
    obtain ⟨rfl, q2⟩ := q2
    cases hp : p x with
    | true =>
      rw [hp, if_pos rfl] at q2
      rw [if_pos rfl]
      refine q2.mono fun it ρ3 n3 q3 => ⟨Nat.ble_eq_true_of_le ?_, ?_, q3.2.1, q3.2.2⟩
      · rw [List.length_map]
        have h1 := List.length_filter_le p (xs.take i)
        rw [List.length_take] at h1
        omega
      · rw [q3.1, List.take_add_one, hx]
        simp [hp]
    | false =>
      rw [hp, if_neg Bool.false_ne_true] at q2
      rw [if_neg Bool.false_ne_true]
      refine ⟨?_, q2.1, q2.2⟩
      rw [List.take_add_one, hx]
      simp [hp]
  · obtain ⟨rfl, rfl, rfl⟩ := q
    rw [List.take_length] at *; exact hd
/-- over a list or a tuple -/
theorem iseqL_ {te : TE} {Q : List I → List D → QS} (h : GI c ρ n ds (iList K te) Q) : GI c ρ n ds (HC.iSeq K te) Q := fun σ H vs F s k => .inl (h σ H vs F s k)
theorem iseqT_ {te : TE} {Q : List I → List D → QS} (h : GI c ρ n ds (iTup K te) Q) : GI c ρ n ds (HC.iSeq K te) Q := fun σ H vs F s k => .inr (h σ H vs F s k)
end
/-! ### isinstance with a tuple of classes, laid or written -/
def rIsiTU (K : PySem.W.Frag) : List V → Hp → VK → Prop := fun xs H Q => rIsiT K xs H Q ∨ rIsiK K xs H Q
theorem call_isiTU {X : Cx} {K : PySem.W.Frag} (hK : X.K = K := by rfl) : CallR X (.builtin "isinstance") (rIsiTU K) := by cases hK; exact CallR.or call_isiT call_isiK
def clsD : List D → Option (List Value)
  | [] => some []
  | .ty n :: r => (clsD r).map (Value.type n :: ·)
  | .glo a :: r => (clsD r).map (Value.ref a :: ·)
  | _ => none
section
variable {K : PySem.W.Frag} {c : Wd K} {ρ : List S} {n : Nat} {ds : List I} {Q : QI} {g : Addr} {M : Addr → Prop} {H : Hp}
theorem RA.cls : ∀ {ws : List V} {cs : List D} {us : List Value}, RA K g M H ws cs → clsD cs = some us → Paired ClsV ws us
  | _, [], _, h, e => by cases h; cases e; exact .nil
  | _, d :: cs, us, .cons a b, e => by
    cases d with
    | ty n =>
      cases a
      cases z : clsD cs with
      | none => rw [clsD, z] at e; cases e
      | some vs => rw [clsD, z] at e; cases e; exact .cons (.ty n) (RA.cls b z)
    | glo x =>
      cases a
      cases z : clsD cs with
      | none => rw [clsD, z] at e; cases e
      | some vs => rw [clsD, z] at e; cases e; exact .cons (.own x) (RA.cls b z)
    | _ => cases e
theorem isiU {x : V} {t : Value} {b : Bool} {tp : V} {cs : List D} {us : List Value} {F : VK} (hx : TyX K H x t) (hy : R K g M H tp (.tup cs)) (e : clsD cs = some us) (hk : PySem.W.kitAny K t us = some b) (q : F (.bl b) H) : rIsiTU K [x, tp] H F := by
  cases hy with
  | @tup a ws _ ha ra =>
    have pc := ra.cls e
    rcases ha with ha | ha
    · exact .inl ⟨x, a, ws, t, us, b, rfl, ha.2, pc, hx, hk, q⟩
    · rcases ha with (ha | ⟨_, ha⟩) | ⟨⟨cl, dd, dt, sl⟩, its, m, h1, h2, h3, _, h5⟩
      · cases ha
      · cases ha
      · have hu := ClsV.all pc h5
        cases h2
        cases h3
        refine .inr ⟨x, a, dd, us, m, sl, t, b, rfl, ?_, hx, hk, q⟩
        rw [h1, ← hu]
theorem isiTB_ {it : I} {t : String} {b : Bool} {cs : List D} {us : List Value} (e : it.val.tn = some t) (ec : clsD cs = some us) (hk : PySem.W.kitAny K (.type t) us = some b) (h : Q (.v (.bl b)) ρ n) : GB c ρ n ds (rIsiTU K) [it, .v (.tup cs)] Q := fun σ H vs xs F hl ⟨L, B, s⟩ k => by
  match xs, hl with
  | [x, y], _ =>
  obtain ⟨L, B, s1⟩ := (St.rot (is := [.v (.tup cs)]) (ws := [y]) rfl ⟨L, B, s⟩ : St c ρ n (.v (.tup cs) :: it :: ds) σ H (y :: x :: vs))
  obtain ⟨B', lx, ly, s2, mv, hx, hy⟩ := s1.it2
  exact isiU (hx.tn s1.sl e) hy.r ec hk (k _ _ _ _ _ h ⟨L, B', s2.pushR (.bl _)⟩)
theorem isiTO_ {it : I} {C CP : Addr} {nm : Str} {fs : List (Str × D)} {b : Bool} {cs : List D} {us : List Value} (e : it.val = .ins C fs) (pc : HC.PC K CP C nm) (ec : clsD cs = some us) (hk : PySem.W.kitAny K (.ref C) us = some b) (h : Q (.v (.bl b)) ρ n) : GB c ρ n ds (rIsiTU K) [it, .v (.tup cs)] Q := fun σ H vs xs F hl ⟨L, B, s⟩ k => by
  match xs, hl with
  | [x, y], _ =>
  obtain ⟨L, B, s1⟩ := (St.rot (is := [.v (.tup cs)]) (ws := [y]) rfl ⟨L, B, s⟩ : St c ρ n (.v (.tup cs) :: it :: ds) σ H (y :: x :: vs))
  obtain ⟨B', lx, ly, s2, mv, hx, hy⟩ := s1.it2
  obtain ⟨a, dx, fv, rfl, ha, _⟩ := hx.ins s1.sl e
  exact isiU (pc.ty ha) hy.r ec hk (k _ _ _ _ _ h ⟨L, B', s2.pushR (.bl _)⟩)
end
/-! ### fixed values -/
mutual
def D.fix : D → D
  | .lst xs => .tup (D.fixs xs)
  | .tup xs => .tup (D.fixs xs)
  | d => d
def D.fixs : List D → List D
  | [] => []
  | x :: xs => D.fix x :: D.fixs xs
end
theorem D.fixs_map : ∀ xs : List D, D.fixs xs = xs.map D.fix
  | [] => rfl
  | x :: xs => by rw [D.fixs, List.map_cons, D.fixs_map xs]
/-- nested at most m deep, none too long, leaves of built-in types -/
def okF : Nat → D → Bool
  | 0, .lst _ => false
  | 0, .tup _ => false
  | m + 1, .lst xs => Nat.ble xs.length 100000 && xs.all (okF m)
  | m + 1, .tup xs => Nat.ble xs.length 100000 && xs.all (okF m)
  | _, d => d.tn.isSome
def isSq : D → Bool
  | .lst _ => true
  | .tup _ => true
  | _ => false
theorem okF_tn {m : Nat} {d : D} (h : okF m d = true) : ∃ t, d.tn = some t := by
  cases m <;> cases d <;> first | exact ⟨_, rfl⟩ | (simp [okF, D.tn] at h)
def spd_fixed (m : Nat) (ds : List D) (n : Nat) (Q : I → Nat → Prop) (_ : XD) : Prop := ∃ d, ds = [d] ∧ okF m d = true ∧ Q (.v d.fix) n
def spd_fixedB : Nat → SpD
  | 0 => fun _ _ _ _ => False
  | m + 1 => spd_fixed m
theorem lift_false {K : PySem.W.Frag} : lift K (spd_fixedB 0) = fun _ _ _ _ => False := by
  funext vs H Q E
  exact propext ⟨fun ⟨_, _, _, _, _, _, h⟩ => h, False.elim⟩
theorem sq_kit {K : PySem.W.Frag} {d : D} {t : String} (e : d.tn = some t) : PySem.W.kitAny K (.type t) [.type "list", .type "tuple"] = some (isSq d) := by
  cases d <;> first | (cases e; done) | skip
  · cases e; exact HC.kitAny_two (a := false) (b := false) (kit_ty (by decide +kernel)) (kit_ty (by decide +kernel))
  · cases e; exact HC.kitAny_two (a := false) (b := false) (kit_ty (by decide +kernel)) (kit_ty (by decide +kernel))
  · cases e; exact HC.kitAny_two (a := false) (b := false) (kit_ty (by decide +kernel)) (kit_ty (by decide +kernel))
  · cases e; exact HC.kitAny_two (a := false) (b := false) (kit_ty (by decide +kernel)) (kit_ty (by decide +kernel))
  · cases e; exact HC.kitAny_two (a := false) (b := true) (kit_ty (by decide +kernel)) (kit_ty (by decide +kernel))
  · cases e; exact HC.kitAny_two (a := true) (b := false) (kit_ty (by decide +kernel)) (kit_ty (by decide +kernel))
/-! ### the reel -/
def spV_hat (K : PySem.W.Frag) : Sp := fun vs H Q _ => ∃ (a : Addr) (ns : List Int), vs = [.ref a] ∧ SqL K H a (ns.map V.int) ∧ ns.length ≤ 63 ∧ ∀ p c ms H', Same H H' → H p = none → Hat H' p c ms 0 → Q (.ref p) H'
def spV_lot : Sp := fun vs H Q _ => ∃ (a : Addr) (m : Int) (c : Addr) (ns : List Int) (n : Nat), vs = [.ref a, .int m] ∧ Hat H a c ns n ∧ n ≤ 100000 ∧ 0 < m ∧ m < 1073741824 ∧ ∀ d H', 0 ≤ d → d < m → Kept a H H' → Hat H' a c ns (n + 1) → Q (.int d) H'
def spd_lot (ds : List D) (n : Nat) (Q : I → Nat → Prop) (_ : XD) : Prop := ∃ m : Int, ds = [.hat, .int m] ∧ n ≤ 100000 ∧ (0 < m ∧ m < 1073741824) ∧ ∀ d, 0 ≤ d → d < m → Q (.v (.int d)) (n + 1)
theorem lot_bridge {K : PySem.W.Frag} : ∀ vs H Q E, lift K spd_lot vs H Q E → spV_lot vs H Q E := by
  rintro vs H Q E ⟨c, n, ds, Qd, Ed, k, m, rfl, hn, hm, q⟩
  have ra := k.ra
  cases ra with
  | cons a b =>
  cases b with
  | cons b d =>
  cases a; cases b; cases d
  exact ⟨c.g, m, c.k, c.ns, n, rfl, k.hat, hn, hm.1, hm.2, fun d H' h0 h1 kp ht => k.q _ _ _ _ (q d h0 h1) kp ht (.int d)⟩
theorem use_lot {m : Int} {n : Nat} {Q : I → Nat → Prop} {E : XD} (hn : n ≤ 100000) (hm : 0 < m ∧ m < 1073741824) (q : ∀ d, 0 ≤ d → d < m → Q (.v (.int d)) (n + 1)) : spd_lot [.hat, .int m] n Q E := ⟨m, rfl, hn, hm, q⟩
def spd_one (ds : List D) (n : Nat) (Q : I → Nat → Prop) (_ : XD) : Prop := ∃ d xs, ds = [.hat, d] ∧ d.seq = some xs ∧ n ≤ 100000 ∧ (0 < xs.length ∧ xs.length ≤ 1000) ∧ ∀ v ∈ xs, Q (.v v) (n + 1)
theorem use_one {d : D} {xs : List D} {n : Nat} {Q : I → Nat → Prop} {E : XD} (e : d.seq = some xs) (hn : n ≤ 100000) (hl : 0 < xs.length ∧ xs.length ≤ 1000) (q : ∀ v ∈ xs, Q (.v v) (n + 1)) : spd_one [.hat, d] n Q E := ⟨d, xs, rfl, e, hn, hl, q⟩
/-- behind the law's first statement -/
theorem begin {K : PySem.W.Frag} {t : TS} {E : Ends} {D : Es} {x0 : Option V} {p k : Addr} {ms : List Int} {H : Hp} {rest : L2.St} {m : Nat} (hh : Hat H p k ms 0) (hl : rest.length = m) (h : GS (K := K) ⟨p, k, ms, fun a => a = p ∨ a = k, H⟩ (.un :: .v .hat :: List.replicate m .un) 0 [] t D)
    (he : ∀ v H, (∃ it n, D.rt it n ∧ ∃ c : Wd K, Rt c H v it) → E.rt v H) (h1 : ∀ ρ n, ¬ D.nx ρ n) (h2 : ∀ ρ n, ¬ D.bk ρ n) (h3 : ∀ ρ n, ¬ D.ct ρ n) : t E (x0 :: some (.ref p) :: rest) H := by
  have un : ∀ (m : Nat) (rest : L2.St), rest.length = m → SRs K p (Mo (⟨p, k, ms, fun a => a = p ∨ a = k, H⟩ : Wd K) ([] ++ [])) H (List.replicate m S.un) [] rest := fun m => by
    induction m with
    | zero => intro rest hl; rw [List.length_eq_zero_iff.mp hl]; exact .nil
    | succ m ih => intro rest hl; cases rest with
      | nil => cases hl
      | cons a r => exact .cons (l := []) (.un _) (ih r (by simpa using hl))
  refine h _ H [] E ⟨[], [], .cons (l := []) (.un _) (.cons (l := []) (.v .hat) (un m rest hl)), .nil, List.nodup_nil, (fun a h => by cases h), Kept.refl _ _, hh, .inl rfl, .inr rfl, fun a ha => ?_⟩ ⟨fun ρ n _ _ q => absurd q (h1 ρ n), fun it n v H' q _ _ r => he v H' ⟨it, n, q, _, r⟩, fun ρ n _ _ q => absurd q (h2 ρ n), fun ρ n _ _ q => absurd q (h3 ρ n)⟩
  rcases ha with ha | ha
  · rw [ha]; exact hh.at
  · rw [ha]; exact ⟨_, hh.cs⟩
/-! ### papers -/
def spi_PaperB (m : Nat) (ds : List D) (n : Nat) (Q : List (Str × D) → Nat → Prop) (_ : XD) : Prop := ∃ w xs, ds = [.str w, .tup xs] ∧ okF m (.tup xs) = true ∧ Q [("word", .str w), ("parts", .tup (D.fixs xs))] n
def spi_Paper (m : Nat) (ds : List D) (n : Nat) (Q : List (Str × D) → Nat → Prop) (_ : XD) : Prop := ∃ w xs, ds = .str w :: xs ∧ okF m (.tup xs) = true ∧ Q [("word", .str w), ("parts", .tup (D.fixs xs))] n
theorem starI {K : PySem.W.Frag} {C : Addr} {m : Nat} : ∀ vs H Q E, liftI K C (spi_Paper m) vs H Q E → HC.starS ["self", "word"] (liftI K C (spi_PaperB m)) vs H Q E := by
  rintro vs H Q E ⟨c, n, x, dx, ws, ds, Qd, Ed, rfl, k, w, xs, rfl, ok, q⟩
  have ra := k.ra
  cases ra with
  | @cons v rest _ _ a b =>
  cases a
  refine ⟨[.ref x, .str w], rest, rfl, rfl, ?_, fun p hp => ?_⟩
  · rw [b.len]
    cases m with
    | zero => simp [okF] at ok
    | succ m => rw [okF, Bool.and_eq_true] at ok; exact Nat.le_trans (Nat.le_of_ble_eq_true ok.1) (by decide)
  have sm : Same H (upd H p (.tup rest)) := HX.same_new hp
  have npx : p ≠ x := fun e => by rw [e, k.hx] at hp; cases hp
  have npm : ¬ c.M0 p := fun z => by obtain ⟨o, ho⟩ := k.md p z; rw [hp] at ho; cases ho
  refine ⟨⟨c.g, c.k, c.ns, c.M0, del (upd H p (.tup rest)) x⟩, n, x, dx, [.str w, .ref p], _, Qd, Ed, rfl, ⟨rfl, sm _ _ k.hx, k.nx, k.hat.same sm, k.mg, k.ml, fun a ha => ?_, .cons (.str w) (.cons (.tup (.inl ⟨fun z => z.elim npm npx, upd_same⟩) (b.mv (mv_same sm))) .nil), fun fs m H' q2 k2 h2 r2 => k.q fs m H' q2 (fun b o nb hb => k2 b o nb ?_) h2 r2⟩, w, xs, rfl, ok, q⟩
  · obtain ⟨o, ho⟩ := k.md a ha
    exact ⟨o, sm a o ho⟩
  · rw [k.h0] at hb
    unfold del at hb
    show (if b = x then none else (upd H p (.tup rest)) b) = some o
    split at hb
    · cases hb
    · rename_i nb2
      rw [if_neg nb2]
      exact sm b o hb
theorem fnr_imp {P : Program} {w : World} {K : PySem.W.Frag} {mg : Str → Option Value} {base : Heap} {CX : CXT} {k : Nat} {f : Addr} {sp sp' : Sp} (F : FnR P w K mg base CX k f sp) (h : ∀ vs H Q E, sp' vs H Q E → sp vs H Q E) : FnR P w K mg base CX k f sp' :=
  fun A outer s H us vs Q E hr e r q => F A outer s H us vs Q E hr e r (h _ _ _ _ q)
theorem enterJ {K : PySem.W.Frag} {c : Wd K} {n : Nat} {H : Hp} {x C dx : Addr} {ws : List V} {es : List D} {Q : VK} {E : XK} {Qd : List (Str × D) → Nat → Prop} {Ed : XD} {σ : L2.St} (k : InitOk c H x C dx n ws es Q E Qd Ed) {m : Nat} (eσ : σ = (V.ref x :: ws).map some ++ List.replicate m none) :
    ∃ L, StX c L [] (.me x (.ins C []) :: (es.map S.v ++ List.replicate m S.un)) n [] σ H [] := enterI (R := fun σ H => ∃ L, StX c L [] (.me x (.ins C []) :: (es.map S.v ++ List.replicate m S.un)) n [] σ H []) k eσ fun L s => ⟨L, s⟩
/-- a paper of class C: its word, its parts -/
structure Pp (K : PySem.W.Frag) (CP C : Addr) (nm : Str) (fs : List (Str × D)) (u : Str) (d : D) : Prop where
  pc : HC.PC K CP C nm
  wd : fs.lookup ("word" : Str) = some (.str u)
  pt : fs.lookup ("parts" : Str) = some d
section
variable {K : PySem.W.Frag} {c : Wd K} {ρ : List S} {n : Nat} {ds : List I} {Q : QI}
theorem exfld_ {it : I} {C : Addr} {fs : List (Str × D)} {f : Str} {d : D} {P : D → Prop} (e : it.val = .ins C fs) (h1 : Cls K C) (h2 : NoAttr K C f) (h3 : fs.lookup f = some d) (q : P d) : ∃ C fs d, it.val = .ins C fs ∧ Cls K C ∧ NoAttr K C f ∧ fs.lookup f = some d ∧ P d := ⟨C, fs, d, e, h1, h2, h3, q⟩
theorem excls_ {it : I} {C : Addr} {fs : List (Str × D)} {P : Addr → Prop} (e : it.val = .ins C fs) (h1 : HP.HasCls K C) (q : P C) : ∃ C fs, it.val = .ins C fs ∧ HP.HasCls K C ∧ P C := ⟨C, fs, e, h1, q⟩
theorem exsetM_ {io it : I} {ρ2 : List S} {i : Nat} {d0 : D} {x C : Addr} {fs : List (Str × D)} {f : Str} {nx : QS} {n2 : Nat} (e1 : io = .b i d0) (e2 : clean ds = true) (e3 : (frz1 ρ2 it)[i]? = some (.me x (.ins C fs))) (h1 : Cls K C) (h2 : NoAttr K C f) (e4 : Nat.ble fs.length 900 = true) (q : nx ((frz1 ρ2 it).set i (.me x (.ins C (putD f it.val fs)))) n2) : SM K ds f it io ρ2 n2 nx := ⟨i, d0, x, C, fs, e1, e2, e3, h1, h2, e4, q⟩
end
section
variable {K : PySem.W.Frag} {c : Wd K} {ρ : List S} {n : Nat} {ds : List I}
theorem while_ {cc : TT} {tb : TS} {nx bk ct : QS} {rt : I → Nat → Prop} (P : Nat → QS) (m : Nat) (h0 : P m ρ n)
    (hs : ∀ m ρ n, P m ρ n → GT c ρ n ds cc fun b ρ1 n1 => if b = true then GS c ρ1 n1 ds tb ⟨fun ρ n => ∃ m', m' < m ∧ P m' ρ n, rt, nx, fun ρ n => ∃ m', m' < m ∧ P m' ρ n⟩ else nx ρ1 n1) : GS c ρ n ds (tWhile cc tb) ⟨nx, rt, bk, ct⟩ := fun σ H vs E s k => by
  refine ⟨fun m σ H => ∃ ρ n, P m ρ n ∧ St c ρ n ds σ H vs, ⟨m, ρ, n, h0, s⟩, ?_⟩
  rintro m σ H ⟨ρ, n, p, s⟩
  refine hs m ρ n p σ H vs _ s fun b ρ1 n1 H1 q s1 => ?_
  cases b with
  | true =>
    rw [if_pos rfl] at q ⊢
    refine ⟨fun σ H => ∃ m', m' < m ∧ ∃ ρ n, P m' ρ n ∧ St c ρ n ds σ H vs, fun σ' H' ⟨m', hm, z⟩ => ⟨m', hm, z⟩, ?_⟩
    exact q σ H1 vs _ s1 ⟨fun ρ n σ H ⟨m', hm, z⟩ s => ⟨m', hm, ρ, n, z, s⟩, k.rt, fun ρ n σ H q s => k.nx _ _ _ _ q s, fun ρ n σ H ⟨m', hm, z⟩ s => ⟨m', hm, ρ, n, z, s⟩⟩
  | false =>
    rw [if_neg Bool.false_ne_true] at q ⊢
    exact k.nx _ _ _ _ q s1
end
/-! ### isinstance with one built-in type -/
def isIntB : D → Bool
  | .int _ => true
  | .bl _ => true
  | _ => false
theorem kitInt {K : PySem.W.Frag} {d : D} {t : String} (e : d.tn = some t) : PySem.W.kitOne K (.type t) (.type "int") = some (isIntB d) := by
  cases d <;> first | (cases e; done) | skip
  all_goals (cases e; dsimp only [isIntB]; exact kit_ty (by decide +kernel))
theorem isiInt_ {K : PySem.W.Frag} {c : Wd K} {ρ : List S} {n : Nat} {ds : List I} {Q : QI} {it : I} (e : it.val.tn.isSome = true) (h : Q (.v (.bl (isIntB it.val))) ρ n) : GB c ρ n ds (rIsi K) [it, .v (.ty "int")] Q := by
  cases z : it.val.tn with
  | none => rw [z] at e; cases e
  | some t => exact isiB_ z (kitInt z) h
def isBoolB : D → Bool
  | .bl _ => true
  | _ => false
theorem kitBool {K : PySem.W.Frag} {d : D} {t : String} (e : d.tn = some t) : PySem.W.kitOne K (.type t) (.type "bool") = some (isBoolB d) := by
  cases d <;> first | (cases e; done) | skip
  all_goals (cases e; dsimp only [isBoolB]; exact kit_ty (by decide +kernel))
theorem isiBool_ {K : PySem.W.Frag} {c : Wd K} {ρ : List S} {n : Nat} {ds : List I} {Q : QI} {it : I} (e : it.val.tn.isSome = true) (h : Q (.v (.bl (isBoolB it.val))) ρ n) : GB c ρ n ds (rIsi K) [it, .v (.ty "bool")] Q := by
  cases z : it.val.tn with
  | none => rw [z] at e; cases e
  | some t => exact isiB_ z (kitBool z) h
def isStrB : D → Bool
  | .str _ => true
  | _ => false
theorem kitStr {K : PySem.W.Frag} {d : D} {t : String} (e : d.tn = some t) : PySem.W.kitOne K (.type t) (.type "str") = some (isStrB d) := by
  cases d <;> first | (cases e; done) | skip
  all_goals (cases e; dsimp only [isStrB]; exact kit_ty (by decide +kernel))
theorem isiStr_ {K : PySem.W.Frag} {c : Wd K} {ρ : List S} {n : Nat} {ds : List I} {Q : QI} {it : I} (e : it.val.tn.isSome = true) (h : Q (.v (.bl (isStrB it.val))) ρ n) : GB c ρ n ds (rIsi K) [it, .v (.ty "str")] Q := by
  cases z : it.val.tn with
  | none => rw [z] at e; cases e
  | some t => exact isiB_ z (kitStr z) h
def isListB : D → Bool
  | .lst _ => true
  | _ => false
theorem kitList {K : PySem.W.Frag} {d : D} {t : String} (e : d.tn = some t) : PySem.W.kitOne K (.type t) (.type "list") = some (isListB d) := by
  cases d <;> first | (cases e; done) | skip
  all_goals (cases e; dsimp only [isListB]; exact kit_ty (by decide +kernel))
theorem isiList_ {K : PySem.W.Frag} {c : Wd K} {ρ : List S} {n : Nat} {ds : List I} {Q : QI} {it : I} (e : it.val.tn.isSome = true) (h : Q (.v (.bl (isListB it.val))) ρ n) : GB c ρ n ds (rIsi K) [it, .v (.ty "list")] Q := by
  cases z : it.val.tn with
  | none => rw [z] at e; cases e
  | some t => exact isiB_ z (kitList z) h
def isTupB : D → Bool
  | .tup _ => true
  | _ => false
theorem kitTup {K : PySem.W.Frag} {d : D} {t : String} (e : d.tn = some t) : PySem.W.kitOne K (.type t) (.type "tuple") = some (isTupB d) := by
  cases d <;> first | (cases e; done) | skip
  all_goals (cases e; dsimp only [isTupB]; exact kit_ty (by decide +kernel))
theorem isiTup_ {K : PySem.W.Frag} {c : Wd K} {ρ : List S} {n : Nat} {ds : List I} {Q : QI} {it : I} (e : it.val.tn.isSome = true) (h : Q (.v (.bl (isTupB it.val))) ρ n) : GB c ρ n ds (rIsi K) [it, .v (.ty "tuple")] Q := by
  cases z : it.val.tn with
  | none => rw [z] at e; cases e
  | some t => exact isiB_ z (kitTup z) h
theorem rngB_ {i : Int} {P : Prop} (e : -(2 ^ 62) ≤ i ∧ i < 2 ^ 62) (h : P) : (-(2 ^ 62) ≤ i ∧ i < 2 ^ 62) ∧ P := ⟨e, h⟩
theorem rngC_ {i j : Int} {P : Prop} (e : -(2 ^ 62) ≤ i ∧ i < 2 ^ 62 ∧ -(2 ^ 62) ≤ j ∧ j < 2 ^ 62) (h : P) : (-(2 ^ 62) ≤ i ∧ i < 2 ^ 62 ∧ -(2 ^ 62) ≤ j ∧ j < 2 ^ 62) ∧ P := ⟨e, h⟩
theorem cle_ {own : List Nat} {ds : List I} {P : Prop} (e : cleanO own ds = true) (h : P) : cleanO own ds = true ∧ P := ⟨e, h⟩
section
variable {K : PySem.W.Frag} {c : Wd K} {ρ : List S} {n : Nat} {ds : List I} {Q : QI}
/-- i if b else j: one way on, with a letter -/
theorem joinI_ {b : Bool} {i j : Int} (h : ∀ e : Int, (b = true ∧ e = i ∨ b = false ∧ e = j) → Q (.v (.int e)) ρ n) : if b = true then GE c ρ n ds (tC (.int i)) Q else GE c ρ n ds (tC (.int j)) Q := by
  cases b with
  | true => exact cint_ (h i (.inl ⟨rfl, rfl⟩))
  | false => exact cint_ (h j (.inr ⟨rfl, rfl⟩))
theorem joinN_ {b : Bool} {i j : Int} (h : ∀ e : Int, (b = true ∧ e = i ∨ b = false ∧ e = -j) → Q (.v (.int e)) ρ n) : if b = true then GE c ρ n ds (tC (.int i)) Q else GE c ρ n ds (tUn (rU fun i => .int (-i)) (tC (.int j))) Q := by
  cases b with
  | true => exact cint_ (h i (.inl ⟨rfl, rfl⟩))
  | false => exact un_ (cint_ (u_ (h (-j) (.inr ⟨rfl, rfl⟩))))
/-- two ways that come to one -/
theorem joinE_ {b : Bool} {t u : TE} (Mid : QI) (h1 : b = true → GE c ρ n ds t Mid) (h2 : b = false → GE c ρ n ds u Mid) (h : ∀ it ρ n, Mid it ρ n → Q it ρ n) : if b = true then GE c ρ n ds t Q else GE c ρ n ds u Q := by
  cases b with
  | true => exact (h1 rfl).mono h
  | false => exact (h2 rfl).mono h
end
theorem atD_some {xs : List D} {z : Int} (h0 : 0 ≤ z) (h1 : z < xs.length) : ∃ v, atI xs z = some v ∧ v ∈ xs := by
  obtain ⟨k, rfl⟩ := Int.eq_ofNat_of_zero_le h0
  have hk : k < xs.length := by omega
  exact ⟨xs[k], atI_nat (List.getElem?_eq_getElem hk), List.getElem_mem hk⟩
theorem exlstD_ {ys : List D} {P : List D → Prop} (h : P ys) : ∃ xs, D.lst ys = D.lst xs ∧ P xs := ⟨ys, rfl, h⟩
theorem rngT1 {lo : Int} : rngD lo (Int.toNat 1) = [.int (lo + 0)] := rfl
theorem rngT2 {lo : Int} : rngD lo (Int.toNat 2) = [.int (lo + 0), .int (lo + 1)] := rfl
theorem rngT3 {lo : Int} : rngD lo (Int.toNat 3) = [.int (lo + 0), .int (lo + 1), .int (lo + 2)] := rfl
theorem rngT4 {lo : Int} : rngD lo (Int.toNat 4) = [.int (lo + 0), .int (lo + 1), .int (lo + 2), .int (lo + 3)] := rfl
theorem rngT5 {lo : Int} : rngD lo (Int.toNat 5) = [.int (lo + 0), .int (lo + 1), .int (lo + 2), .int (lo + 3), .int (lo + 4)] := rfl
theorem rngT6 {lo : Int} : rngD lo (Int.toNat 6) = [.int (lo + 0), .int (lo + 1), .int (lo + 2), .int (lo + 3), .int (lo + 4), .int (lo + 5)] := rfl
/-- a new thing may be handed back as one that no one changes -/
def WQ (Q : I → Nat → Prop) : I → Nat → Prop := fun it n => Q it n ∨ ∃ d, it = .o d ∧ Q (.v d) n
theorem wl_ {Q : I → Nat → Prop} {it : I} {n : Nat} (h : Q it n) : WQ Q it n := .inl h
theorem wv_ {Q : I → Nat → Prop} {d : D} {n : Nat} (h : Q (.v d) n) : WQ Q (.o d) n := .inr ⟨d, rfl, h⟩
theorem CallOk.w {K : PySem.W.Frag} {c : Wd K} {H : Hp} {n : Nat} {vs : List V} {ds : List D} {Q : VK} {E : XK} {Qd : I → Nat → Prop} {Ed : XD} (k : CallOk c H n vs ds Q E Qd Ed) : CallOk c H n vs ds Q E (WQ Qd) Ed :=
  ⟨k.h0, k.hat, k.mg, k.ml, k.md, k.ra, fun it n' v H' q k1 k2 r => by
    rcases q with q | ⟨d, rfl, q⟩
    · exact k.q _ _ _ _ q k1 k2 r
    · obtain ⟨p, rfl, hp, np, r⟩ := r
      exact k.q _ _ _ _ q k1 k2 (show R K c.g c.M0 H' (.ref p) d from (r.mv (mv_less fun a ha => .inl ha) fun _ h => h).r np), k.e⟩
section
variable {K : PySem.W.Frag} {c : Wd K} {ρ : List S} {n : Nat} {ds : List I}
/-- a, b, .. = x, y, ..: the tuple is laid and read at once -/
theorem asgT_ {ta : TA} {gs : TGs} {m : Nat} {nx bk ct : QS} {rt : I → Nat → Prop} (h : GA c ρ n ds ta fun its ρ' n' => Nat.ble its.length 1000 = true ∧ its.length = m ∧ GGs c ρ' n' ds gs its nx) : GS c ρ n ds (tAsg (tTup ta) (gTup K m gs)) ⟨nx, rt, bk, ct⟩ := fun σ H vs E s k =>
  h σ H vs _ s fun its ρ' n' xs H' ⟨hb, hm, q⟩ hl s' => by
    refine ⟨Nat.le_trans (by rw [hl]; exact Nat.le_of_ble_eq_true hb) (by decide), fun p hp => ⟨p, xs, rfl, SqT.of upd_same, by rw [hl]; exact hm, ?_⟩⟩
    exact q σ _ vs xs E.nx hl (s'.same (HX.same_new hp)) fun ρ2 n2 σ2 H2 q2 s2 => k.nx _ _ _ _ q2 s2
theorem leneq_ {its : List I} {b : Nat} {P : Prop} (e : its.length = b) (h : P) : its.length = b ∧ P := ⟨e, h⟩
end
section
variable {X : Cx} {K : PySem.W.Frag} {T id : String} {name : Str} {r : V → List V → Hp → VK → Prop} {o e : Expr} {es : List Expr} {to : TE} {t : TA} {apos cpos : Pos}
theorem pe_bm0K (pa : PlainAttrs T) (slot : Slot T name id) (hty : typeOf (.builtin id) = pure (.type "method_descriptor")) (hm : MtR X id r) (ho : PE X o to)
    (hbase : attributeBase o name X.env (eval o X.env) = eval o X.env := by rfl) (hline : (apos.endLine == cpos.line) = true := by rfl) (hK : X.K = K := by rfl) : PE X (.Call (.Attribute o name apos) [] [] cpos) (tBM0 K T r to) := by
  cases hK; exact pe_bm0 pa slot hty hm ho hbase hline
theorem pe_bmK (pa : PlainAttrs T) (slot : Slot T name id) (hty : typeOf (.builtin id) = pure (.type "method_descriptor")) (hm : MtR X id r) (ho : PE X o to) (ha : PA X (e :: es) t)
    (hbase : attributeBase o name X.env (eval o X.env) = eval o X.env := by rfl)
    (hfew : ((backTo cpos (starEach (e :: es) X.env)).all (fun x => !x.1) && (backToKw cpos (keywordEach [] X.env)).all (fun x => x.1.isSome)
      && decide ((e :: es).length + ([] : List Keyword).length + (if ([] : List Keyword).isEmpty then 0 else 1) < 30)) = true := by rfl)
    (hline : (apos.endLine == cpos.line) = true := by rfl) (hs : starEach (e :: es) X.env = (false, eval e X.env) :: starEach es X.env := by rfl) (hplain : (backTo cpos (starEach es X.env)).any (·.1) = false := by rfl) (hK : X.K = K := by rfl) :
    PE X (.Call (.Attribute o name apos) (e :: es) [] cpos) (tBM K T r to t) := by
  cases hK; exact pe_bm pa slot hty hm ho ha hbase hfew hline hs hplain
theorem mt_lcountK (hK : X.K = K := by rfl) : MtR X "list.count" (rCntI K) := by cases hK; exact mt_lcount
end
end HD
/-! further steps on data -/
namespace HD
open PySem PySem.Spec PyProof.Rows L2 HX
/-- is, is not between truths -/
def rIsB : R2 := fun x y H Q => ∃ a b, x = .bl a ∧ y = .bl b ∧ Q (.bl (a == b)) H
def rNotB : R2 := fun x y H Q => ∃ a b, x = .bl a ∧ y = .bl b ∧ Q (.bl (!(a == b))) H
theorem op_isU {X : Cx} : OpR X (compareOp .Is) rIsB := by
  intro pins s σ H x y v u Q I rx ry h
  obtain ⟨a, b, rfl, rfl, q⟩ := h
  cases rx
  cases ry
  exact is_bool (fin_bl I q rfl)
theorem op_notU {X : Cx} : OpR X (compareOp .IsNot) rNotB := by
  intro pins s σ H x y v u Q I rx ry h
  obtain ⟨a, b, rfl, rfl, q⟩ := h
  cases rx
  cases ry
  exact isnot_bool (fin_bl I q rfl)
section
variable {K : PySem.W.Frag} {c : Wd K} {ρ : List S} {n : Nat} {ds : List I} {Q : QI} {QB : Bool → QS}
theorem isB_ {a b : Bool} (h : Q (.v (.bl (a == b))) ρ n) : GO c ρ n ds rIsB (.v (.bl a)) (.v (.bl b)) Q := fun σ H vs x y F s k => by
  obtain rfl := R.eBl s.two.1; obtain rfl := R.eBl s.two.2
  exact ⟨a, b, rfl, rfl, k _ _ _ _ _ h (s.pop.pop.pushS rfl)⟩
theorem notB_ {a b : Bool} (h : Q (.v (.bl (!(a == b)))) ρ n) : GO c ρ n ds rNotB (.v (.bl a)) (.v (.bl b)) Q := fun σ H vs x y F s k => by
  obtain rfl := R.eBl s.two.1; obtain rfl := R.eBl s.two.2
  exact ⟨a, b, rfl, rfl, k _ _ _ _ _ h (s.pop.pop.pushS rfl)⟩
/-- the truth of a paper, by its own __bool__ -/
theorem truP_ {ta : TE} {f1 f2 : Addr} (h : GE c ρ n ds ta fun it ρ' n' => ∃ C fs b, it.val = .ins C fs ∧ ((HB.BoolCls K C f1 ∧ b = true) ∨ (HB.BoolCls K C f2 ∧ b = false)) ∧ QB b ρ' n') : GT c ρ n ds (fun σ H Q => ta σ H fun x H' => HB.rTruB K f1 true x H' Q ∨ HB.rTruB K f2 false x H' Q) QB := fun σ H vs F s k => by
  refine tru_ (r := fun x H Q => HB.rTruB K f1 true x H Q ∨ HB.rTruB K f2 false x H Q) ?_ σ H vs F s k
  refine h.mono fun it ρ n ⟨C, fs, b, e, hb, q⟩ => ⟨C, fs, b, e, fun a dx fv H F ha hF => ?_, q⟩
  rcases hb with ⟨hb, rfl⟩ | ⟨hb, rfl⟩
  · exact .inl ⟨a, C, dx, fv, rfl, ha, hb, hF⟩
  · exact .inr ⟨a, C, dx, fv, rfl, ha, hb, hF⟩
/-! lists of ints -/
theorem pys_ints : ∀ xs : List Int, D.pys (xs.map D.int) = xs.map PyData.int
  | [] => rfl
  | x :: xs => by rw [List.map_cons, D.pys, pys_ints xs, D.py]; rfl
theorem dats_ints : ∀ xs : List Int, D.dats (xs.map D.int) = true
  | [] => rfl
  | x :: xs => by rw [List.map_cons, D.dats, dats_ints xs, D.dat]; rfl
end
end HD
/-! bool(o), o an instance with an own __bool__ -/
namespace HN
open PySem PySem.Spec PyProof.Rows L2 HX
theorem bool_meetsIn {prog : Program} {w : World} (x : Value) : MeetsIn prog w (Builtin.«bool.__new__» ⟨[.type "bool", x], []⟩) (fun A R s => wpAny (model prog w) A.in1 (truthy x) (fun b s' => R (.ok (.ret (.bool b))) s') (fun e s' => R (.error e) s') s) :=
  .of_wp fun A R s h => by
    have hsub := F.conv_sub_bool
    obtain ⟨hp, g, d, tk, os⟩ := s
    repeat (any_goals (first | assumption | (refine wpAny_mono h (fun b s' q => ?_) (fun _ _ q => q)) | wp_step))
    all_goals first | exact ⟨_, rfl, q⟩ | skip
section
variable {X : Cx} {K : PySem.W.Frag} {n : Nat} {f : Addr} {fd : FuncData} {ps : List Str} {b : Bool}
def rBoolB (K : PySem.W.Frag) (f : Addr) (b : Bool) : List V → Hp → VK → Prop := fun xs H Q => ∃ a C dx fs, xs = [.ref a] ∧ H a = some (.ins C dx fs) ∧ HB.BoolCls K C f ∧ Q (.bl b) H
theorem call_boolO (F : FnOk X.prog X.w X.K X.mg X.base CX0 n f fd ps (HB.spB b)) (hb : Binds X.K fd ps []) (hr : Room (n + 2) X.A) (hK : X.K = K := by rfl) : CallR X (.type "bool") (rBoolB K f b) := by
  cases hK
  intro pins s σ H xs us Q I rx h
  obtain ⟨a, C, dx, fs, rfl, ha, k, q⟩ := h
  obtain rfl := Vals.ref1 rx
  refine callType_newIn PySem.F.called_bool PySem.F.newNe_bool (PySem.F.typeCall_bool_1 _) (PySem.F.newCall_bool_1 _) (fun obj => PySem.F.args_object_init_2 obj _) PySem.F.entry_bool_new (bool_meetsIn _) ?_
  obtain ⟨mA, J, _⟩ := ins_get I.hok ha
  obtain ⟨od, J, _⟩ := J.look
  obtain ⟨m, hF⟩ := I.fr
  refine PySem.W.truthy_K hF I.ok.mod.kin J k.at_ k.fn ?_
  have hl : 1 = ps.length := F.len [.ref a] H (fun _ _ => True) E0 ⟨a, rfl, True.intro⟩
  have r2 : Vals [V.ref a] [Value.ref a] := .cons rfl .nil
  refine wpAny_call (codeAny_mono (F.run X.A.in1.in1 X.stack s H ⟨[.ref a], []⟩ [.ref a] [.ref a] (fun v H' => v = .bl b ∧ Q (.bl b) H') E0 hr.in1.in1 I.env0.in1.in1 (by
    have := hb s [.ref a] I.kIn (by simpa using hl)
    simpa using this) r2 ⟨a, rfl, rfl, q⟩) fun r s' hq => ?_)
  cases r with
  | error e => exact hq.elim
  | ok fl =>
    cases fl with
    | ret w =>
      obtain ⟨v, H', I', rv, ev, qq⟩ := I.after hq
      subst ev
      obtain rfl : w = Value.bool b := rv
      exact ⟨rfl, .bl b, H', I', rfl, qq⟩
    | next => exact hq.elim
    | brk => exact hq.elim
    | cont => exact hq.elim
end
section
open HD
variable {K : PySem.W.Frag} {c : Wd K} {ρ : List S} {n : Nat} {ds : List I} {Q : QI}
/-- a test that comes out one way, whatever happens within -/
theorem testB_ {QB : Bool → QS} {t : TT} (b : Bool) (ρ0 : List S) (n0 : Nat) (h : GT c ρ n ds t fun b' ρ' n' => b' = b ∧ ρ' = ρ0 ∧ n' = n0) (h2 : QB b ρ0 n0) : GT c ρ n ds t QB := h.mono fun b' ρ' n' ⟨e1, e2, e3⟩ => by subst e1 e2 e3; exact h2
theorem testS_ {QB : Bool → QS} {t : TT} (b : Bool) (h : GT c ρ n ds t fun b' ρ' n' => b' = b ∧ ρ' = ρ ∧ n' = n) (h2 : QB b ρ n) : GT c ρ n ds t QB := testB_ b ρ n h h2
theorem boolP_ {f1 f2 : Addr} {it : I} {C : Addr} {fs : List (Str × D)} {b : Bool} (e : it.val = .ins C fs) (hb : (HB.BoolCls K C f1 ∧ b = true) ∨ (HB.BoolCls K C f2 ∧ b = false)) (h : Q (.v (.bl b)) ρ n) : GB c ρ n ds (fun xs H Q => rBoolB K f1 true xs H Q ∨ rBoolB K f2 false xs H Q) [it] Q := gb1 fun σ H vs x F L B s k => by
  obtain ⟨B', lx, s2, mv, hx⟩ := s.it1
  obtain ⟨a, dx, fv, rfl, ha, rf⟩ := hx.ins s.sl e
  have q := k _ _ _ _ _ h ⟨L, B', s2.pushR (.bl b)⟩
  rcases hb with ⟨hb, rfl⟩ | ⟨hb, rfl⟩
  · exact .inl ⟨a, C, dx, fv, rfl, ha, hb, q⟩
  · exact .inr ⟨a, C, dx, fv, rfl, ha, hb, q⟩
end
end HN
/-! set(xs), xs a list of integers; sorted of it -/
namespace HQ
open PySem PySem.Spec PyProof.Rows L2 HX
/-! ### set(xs), xs a list of integers -/
def emptySet (w : World) : Obj := { cls := .type "set", dict := none, data := .set #[] 0 (.fresh 0 0 (!w.params.followText "set-order")) }
section
variable {P : Program} {w : World} {A : Around} {E : Value → Shared → Prop} {s : Shared}
theorem setOfInts {l : Addr} {zs : Array Value} (ms : List Int) {Q : Value → Shared → Prop} (calm : A.handled = none) (isl : s.heap.IsList l zs) (hin : IntsAre zs.toList ms) (few : ms.length + 1 < scanBound)
    (k : ∀ (h' : Heap) (tk m : Nat), SetR w h' s.heap.objs.size (fun j => decide (j ∈ ms)) m → m ≤ ms.length → (∀ b o, s.heap.get? b = some o → h'.get? b = some o) → Q (.ref s.heap.objs.size) { s with heap := h', toks := tk }) :
    wpAny (model P w) A (call (.type "set") [.ref l]) Q E s := by
  have size : zs.size = ms.length := by rw [← Array.length_toList]; exact IntsAre.length hin
  obtain ⟨_, _, hmro⟩ := F.called_set.mro
  have m1 := F.called_set.made
  have m2 := F.called_set.sub
  refine wpAny_call (codeAny_of_tree ?_)
  show wpAny _ _ (callAny (.type "set") _) _ _ _
  refine wpAny_pure ⟨Code.quiet_builtin _ (by decide +kernel), codeAny_builtin F.entry_type_call ?_⟩
  rw [Around.under_plain (weight_type_call_type "set" [.ref l] []) rfl]
  have m3 := F.called_set.notType
  have m4 := F.called_set.canCreate
  have m5 := F.typeCall_set_1 (.ref l)
  repeat (any_goals (first | assumption | wp_step))
  refine codeAny_mono (code_set_led1 (.ref l) (E := E) (Q₁ := fun o t => o = .ref s.heap.objs.size ∧ t = { s with heap := s.heap.push (emptySet w) }) ⟨rfl, rfl⟩) fun r t hr => ?_
  match r, hr with
  | .error e, hr => exact hr
  | .ok (.ret o), hr =>
    obtain ⟨rfl, rfl⟩ := hr
    generalize eS : s.heap.push (emptySet w) = G
    have atS : G.get? s.heap.objs.size = some (emptySet w) := by rw [← eS]; exact Heap.get?_push_size _ rfl
    have old : ∀ b o, s.heap.get? b = some o → G.get? b = some o := fun b o e => by rw [← eS]; exact Heap.get?_push_of_some _ e
    have szG : G.objs.size = s.heap.objs.size + 1 := by rw [← eS]; exact Heap.size_push ..
    have ty : Shared.TypeIs { s with heap := G } (.ref s.heap.objs.size) "set" := ⟨_, atS, rfl⟩
    have n1 := F.called_set.init.lookup
    have n2 := F.called_set.init.bind (.ref s.heap.objs.size)
    repeat (any_goals (first | assumption | wp_step))
    refine codeAny_mono (codeAny_call_builtin (R := wants (fun r t => r = .none ∧ ∃ h' tk m, t = { s with heap := h', toks := tk } ∧ SetR w h' s.heap.objs.size (fun j => decide (j ∈ ms)) m ∧ m ≤ ms.length ∧ (∀ b o, s.heap.get? b = some o → h'.get? b = some o)) E) F.called_set.init.plain F.entry_set_init (check_set_init_1 ty ?_)) fun r2 t2 hr2 => ?_
    · obtain ⟨⟨oc, od, ot, os⟩, e1, e2, nl, e3⟩ := isl
      simp only at e2 e3
      subst e2; subst e3
      have atL := old _ _ e1
      have u1 := F.sub_list_set
      have u2 := F.sub_list_frozenset
      have u3 : (Value.type "list" == Value.type "dict") = false := by decide
      have isG : G.IsList l zs := ⟨_, atL, rfl, nl, rfl⟩
      unfold Builtin.«set.__init__» noKeywords Builtin.Frozenset.updateFrom
      generalize hp : pyIter = p
      wp_walk
      subst hp
      refine wpAny_pyIter_list isG (wpAny_bind (wpAny_runValue ?_))
      have lt : l < s.heap.objs.size := Heap.lt_size e1
      have calm3 : A.in1.in1.in1.handled = none := by simp [calm]
      have ne : l ≠ G.objs.size := by rw [szG]; exact Nat.ne_of_lt (Nat.lt_succ_of_lt lt)
      have nin : s.heap.objs.size ∉ [G.objs.size, l] := by
        rw [szG]
        simp only [List.mem_cons, List.not_mem_nil, or_false, not_or]
        exact ⟨Nat.ne_of_lt (Nat.lt_succ_self _), Nat.ne_of_gt lt⟩
      refine set_update_ints ((Walks.list calm3 _ l ne zs).toS) s.heap.objs.size nin ms size few (fun i v hv => ?_) (zs.size - 0) 0 _ (by omega) (Nat.zero_le _) ⟨⟨_, Heap.get?_push_size _ rfl, rfl, rfl⟩, isG.push _⟩ ⟨0, Nat.le_refl 0, setR_new_at (Heap.get?_push_of_some _ atS)⟩ (fun t m hm hc hS => ?_)
      · have hi : i < ms.length := by rw [← size]; exact (Array.getElem?_eq_some_iff.mp hv).1
        obtain ⟨tk, e⟩ := PyProof.Rows.IntsAre.int_at hin i v (by rw [Array.getElem?_toList]; exact hv)
        refine ⟨ms[i], tk, List.getElem?_eq_getElem hi, ?_⟩
        rw [e, List.getD_eq_getElem?_getD, List.getElem?_eq_getElem hi] <;> rfl
      · obtain ⟨h', g2, d2, tk, os2⟩ := t
        obtain rfl : g2 = s.gens := hm.gens
        obtain rfl : d2 = s.drawn := hm.drawn
        obtain rfl : os2 = s.os := hm.os
        show wpAny _ _ _ _ _ _
        refine wpAny_pure ?_
        show wpAny _ _ (ret Value.none) _ _ _
        rw [size] at hc
        refine wpAny_pure ⟨rfl, h', tk, m, rfl, hS, hc, fun b o e => hm.heap b o ?_ (Heap.get?_push_of_some _ (old b o e))⟩
        have hb : b < s.heap.objs.size := Heap.lt_size e
        rw [szG]
        simp only [List.mem_cons, List.not_mem_nil, or_false, not_or]
        exact ⟨Nat.ne_of_lt hb, Nat.ne_of_lt (Nat.lt_succ_of_lt hb)⟩
    · match r2, hr2 with
      | .error e, hr2 => exact hr2
      | .ok (.ret r), hr2 =>
        obtain ⟨rfl, h', tk, m, rfl, a1, a2, a3⟩ := hr2
        repeat (any_goals (first | assumption | wp_step))
        exact k _ _ _ a1 a2 a3
      | .ok .next, hr2 => exact hr2.elim
      | .ok .brk, hr2 => exact hr2.elim
      | .ok .cont, hr2 => exact hr2.elim
  | .ok .next, hr => exact hr.elim
  | .ok .brk, hr => exact hr.elim
  | .ok .cont, hr => exact hr.elim
end
section
variable {X : Cx} {K : PySem.W.Frag}
def rSetL (K : PySem.W.Frag) (w : World) : List V → Hp → VK → Prop := fun xs H Q => ∃ (l : Addr) (ns : List Int), xs = [.ref l] ∧ SqL K H l (ns.map V.int) ∧ ns.length < 1000 ∧ ∀ p m, H p = none → m ≤ ns.length → Q (.ref p) (upd H p (SetO w p (fun j => decide (j ∈ ns)) m))
theorem call_setL (hc : X.calm = true) (hK : X.K = K := by rfl) : CallR X (.type "set") (rSetL K X.w) := by
  cases hK
  intro pins s σ H xs us Q I r h
  obtain ⟨l, ns, rfl, hq, hl, q⟩ := h
  obtain rfl := Vals.ref1 r
  obtain ⟨its, rv, pl, hz⟩ := I.list hq
  refine setOfInts (I.ok.hd hc) pl.isList (ms := ns) (by simpa using rv.ints) (by unfold scanBound; omega) fun h' tk m hS hm hk => ?_
  exact ⟨.ref _, _, I.laid (t' := tk) hk (Nat.le_refl _) (setO_new hS), rfl, q _ m (I.hok.fresh (Nat.le_refl _)) hm⟩
end
section
open HD
variable {K : PySem.W.Frag} {c : Wd K} {ρ : List S} {n : Nat} {ds : List I} {Q : QI}
/-- sorted(set(e)) -/
theorem sortSet_ {w : World} {te : TE} (h : GE c ρ n ds te fun it ρ' n' => ∃ ns : List Int, it.val = .lst (ns.map D.int) ∧ ns.length < 64 ∧ ∀ ms : List Int, ms.Pairwise (· < ·) → (∀ k, k ∈ ms ↔ k ∈ ns) → ms.length ≤ ns.length → Q (.o (.lst (ms.map D.int))) ρ' n') :
    GE c ρ n ds (tCB (rSortedSet w) (tCons (tCB (rSetL K w) (tCons te tNil)) tNil)) Q := fun σ H vs F s k =>
  h σ H vs _ s fun it ρ' n' v H' ⟨ns, e, hl, q⟩ ⟨L, B, s'⟩ => by
    obtain ⟨a, ws, B', e1, e2, s2, ra⟩ := s'.lsp e
    obtain rfl := ra.ints
    subst e1
    refine ⟨a, ns, rfl, SqL.of e2, by omega, fun p m hp hm => ?_⟩
    refine ⟨p, _, m, rfl, upd_same, by omega, fun ms r hs hm2 hln hr => ?_⟩
    have s3 := s2.same (HX.same_new (o := SetO w p (fun j => decide (j ∈ ns)) m) hp)
    exact k _ _ _ _ _ (q ms hs (fun k => (hm2 k).trans ⟨fun z => of_decide_eq_true z, fun z => decide_eq_true z⟩) (by omega)) ⟨L, _, s3.pushO hr (RA.ofInts ms)⟩
end
end HQ
/-! repr of data; sorted(set(..)) of integers; zip, enumerate on data -/
namespace HU
open PySem PySem.Spec PyProof.Rows L2 HX
theorem nd_ {c : Prop} [Decidable c] (h : c) : (!decide c) = false := by rw [decide_eq_true h]; rfl
theorem nt_ {c : Prop} [Decidable c] (h : ¬ c) : (!decide c) = true := by rw [decide_eq_false h]; rfl
/-! ### repr -/
def rRep (K : PySem.W.Frag) : List V → Hp → VK → Prop := fun xs H Q => ∃ p d, xs = [.ref p] ∧ Dp K H (.ref p) d ∧ d.showable = true ∧ d.hasDict = false ∧ d.depth < 30 ∧ d.shown.length ≤ sizeLine ∧ Q (.str d.shown) H
theorem call_reprD {X : Cx} {K : PySem.W.Frag} (hu : X.A.units + 64 < cLine) (hg : X.A.guards = some [] := by rfl) (hK : X.K = K := by rfl) : CallR X (.builtin "repr") (rRep K) := by
  cases hK
  intro pins s σ H xs us Q I r h
  obtain ⟨p, d, rfl, hd, h1, h2, h3, h4, q⟩ := h
  obtain rfl := Vals.ref1 r
  obtain ⟨as, r1⟩ := Dp.reads I d (.ref p) (.ref p) hd rfl
  refine repr_of_reads' r1 h1 (fun z => by rw [h2] at z; cases z) hg (by omega) (fun _ _ z => z) (fun h' u tk hk => ?_) h4
  exact ⟨.str d.shown, H, I.kept hk, ⟨_, rfl⟩, q⟩
section
open HD
variable {K : PySem.W.Frag} {c : Wd K} {ρ : List S} {n : Nat} {ds : List I} {Q : QI}
theorem repr_ {it : I} (hd : it.val.dat = true) (hr : it.val.seq.isSome = true) (h1 : it.val.py.showable = true) (h2 : it.val.py.hasDict = false) (h3 : it.val.py.depth < 30) (h4 : it.val.py.shown.length ≤ sizeLine) (h : Q (.v (.str it.val.py.shown)) ρ n) : GB c ρ n ds (rRep K) [it] Q := gb1 fun σ H vs x F L B s k => by
  obtain ⟨B', lx, s2, mv, hx⟩ := s.it1
  have dp := hx.dpv s.sl hd
  cases e : it.val.seq with
  | none => rw [e] at hr; cases hr
  | some xs =>
    obtain ⟨a, ws, rfl, _⟩ := IR.seq s.sl hx e
    exact ⟨a, _, rfl, dp, h1, h2, h3, h4, k _ _ _ _ _ h ⟨L, B', s2.pushR (.str _)⟩⟩
def zipD : List D → List D → List D := List.zipWith fun a b => .tup [a, b]
theorem zipD_at : ∀ {xs ys : List D} {i : Nat} {d : D}, (zipD xs ys)[i]? = some d → ∃ x y, xs[i]? = some x ∧ ys[i]? = some y ∧ d = .tup [x, y]
  | [], _, _, _, h => by simp [zipD] at h
  | _ :: _, [], _, _, h => by simp [zipD] at h
  | x :: xs, y :: ys, 0, d, h => by cases h; exact ⟨x, y, rfl, rfl, rfl⟩
  | x :: xs, y :: ys, i + 1, d, h => zipD_at (xs := xs) (ys := ys) (i := i) h
theorem zipD_len {xs ys : List D} : (zipD xs ys).length = min xs.length ys.length := by unfold zipD; rw [List.length_zipWith]
theorem izipL_ {ta : TA} {Q : List I → List D → QS} (h : GA c ρ n ds ta fun its ρ' n' => ∃ x y xs ys, its = [x, y] ∧ x.val = .lst xs ∧ y.val = .lst ys ∧ Q [.v (.lst xs), .v (.lst ys)] (zipD xs ys) (frz [x, y] ρ') n') : GI c ρ n ds (RZ.iZipA K ta) Q := fun σ H vs F s k =>
  h σ H vs _ s fun its ρ' n' ws H' ⟨ix, iy, xs, ys, e, ex, ey, q⟩ hl s' => by
    subst e
    match ws, hl with
    | [x, y], _ =>
    have s2 : St c (frz [ix, iy] ρ') n' (.v (.lst xs) :: .v (.lst ys) :: ds) σ H' (x :: y :: vs) := by
      have := St.frzs (is := [ix, iy]) (ws := [x, y]) rfl s'
      rw [show [ix, iy].map fv = [.v (.lst xs), .v (.lst ys)] from by simp only [List.map, fv, ex, ey]] at this
      exact this
    have main : ∀ {ds : List I} {vs : List V} {ρ : List S} {n : Nat} {ex : List I} {σ : L2.St} {H : Hp} {ews : List V}, ews.length = ex.length → St c ρ n (ex ++ ([.v (.lst xs), .v (.lst ys)] ++ ds)) σ H (ews ++ ([x, y] ++ vs)) → ∃ L B a b us ws, x = .ref a ∧ y = .ref b ∧ StX c L B ρ n (ex ++ ([.v (.lst xs), .v (.lst ys)] ++ ds)) σ H (ews ++ ([x, y] ++ vs)) ∧ H a = some (.lst us) ∧ RA K c.g (Mo c (L ++ B)) H us xs ∧ H b = some (.lst ws) ∧ RA K c.g (Mo c (L ++ B)) H ws ys := by
      intro ds vs ρ n ex σ H ews hl ⟨L, B, s⟩
      have r1 := s.peek (d := .lst xs) (w := x) hl
      have r2 := StX.peek (ex := ex ++ [.v (.lst xs)]) (ews := ews ++ [x]) (d := .lst ys) (w := y) (ds := ds) (vs := vs) (by simp [hl]) (by simpa using s)
      cases r1 with
      | lst _ h1 q1 =>
        cases r2 with
        | lst _ h2 q2 => exact ⟨L, B, _, _, _, _, rfl, rfl, s, h1, q1, h2, q2⟩
    obtain ⟨_, _, a, b, us, ws, rfl, rfl, _, ha, _, hb, _⟩ := main (ex := []) (ews := []) rfl s2
    refine ⟨a, b, us, ws, rfl, .inl ⟨SqL.of ha, SqL.of hb, k [.v (.lst xs), .v (.lst ys)] _ _ n' [.ref a, .ref b] _ H' q rfl s2 fun ds vs => ⟨?_, ?_, ?_⟩⟩⟩
    · intro i ρ n ex σ H ews hi hl s
      obtain ⟨L, B, a', b', us, ws, e1, e2, s, ha, r1, hb, r2⟩ := main hl s
      cases e1; cases e2
      rw [zipD_len] at hi
      have h1 : i < us.length := by rw [r1.len]; omega
      have h2 : i < ws.length := by rw [r2.len]; omega
      exact ⟨us, ws, us[i], ws[i], SqL.of ha, SqL.of hb, List.getElem?_eq_getElem h1, List.getElem?_eq_getElem h2⟩
    · intro i d ρ n ex σ H ews z H2 hd hl s ⟨T, u, w, e1, e2, e3, e4, e5⟩
      obtain ⟨L, B, a', b', us, ws, f1, f2, s, ha, r1, hb, r2⟩ := main hl s
      cases f1; cases f2
      subst e1 e3
      obtain ⟨dx, dy, g1, g2, rfl⟩ := zipD_at hd
      obtain ⟨u', hu, ru⟩ := r1.at g1
      obtain ⟨w', hw, rw'⟩ := r2.at g2
      have := e4 us (SqL.of ha); rw [hu] at this; cases this
      have := e5 ws (SqL.of hb); rw [hw] at this; cases this
      exact ⟨L, B, s.pushT e2 (.cons ru (.cons rw' .nil))⟩
    · intro ρ n ex σ H ews hl s
      obtain ⟨L, B, a', b', us, ws, e1, e2, s, ha, r1, hb, r2⟩ := main hl s
      cases e1; cases e2
      refine ⟨us, ws, SqL.of ha, SqL.of hb, ?_⟩
      rw [zipD_len, r1.len, r2.len]
      omega
theorem izipT_ {ta : TA} {Q : List I → List D → QS} (h : GA c ρ n ds ta fun its ρ' n' => ∃ xs ys, its = [.v (.tup xs), .v (.tup ys)] ∧ Q [.v (.tup xs), .v (.tup ys)] (zipD xs ys) ρ' n') : GI c ρ n ds (RZ.iZipA K ta) Q := fun σ H vs F s k =>
  h σ H vs _ s fun its ρ' n' ws H' ⟨xs, ys, e, q⟩ hl s2 => by
    subst e
    match ws, hl with
    | [x, y], _ =>
    have main : ∀ {ds : List I} {vs : List V} {ρ : List S} {n : Nat} {ex : List I} {σ : L2.St} {H : Hp} {ews : List V}, ews.length = ex.length → St c ρ n (ex ++ ([.v (.tup xs), .v (.tup ys)] ++ ds)) σ H (ews ++ ([x, y] ++ vs)) → ∃ L B a b us ws, x = .ref a ∧ y = .ref b ∧ StX c L B ρ n (ex ++ ([.v (.tup xs), .v (.tup ys)] ++ ds)) σ H (ews ++ ([x, y] ++ vs)) ∧ SqT K H a us ∧ RA K c.g (Mo c (L ++ B)) H us xs ∧ SqT K H b ws ∧ RA K c.g (Mo c (L ++ B)) H ws ys := by
      intro ds vs ρ n ex σ H ews hl ⟨L, B, s⟩
      have r1 := s.peek (d := .tup xs) (w := x) hl
      have r2 := StX.peek (ex := ex ++ [.v (.tup xs)]) (ews := ews ++ [x]) (d := .tup ys) (w := y) (ds := ds) (vs := vs) (by simp [hl]) (by simpa using s)
      cases r1 with
      | tup h1 q1 =>
        cases r2 with
        | tup h2 q2 => exact ⟨L, B, _, _, _, _, rfl, rfl, s, h1.sqt, q1, h2.sqt, q2⟩
    obtain ⟨_, _, a, b, us, ws, rfl, rfl, _, ha, _, hb, _⟩ := main (ex := []) (ews := []) rfl s2
    refine ⟨a, b, us, ws, rfl, .inr ⟨ha, hb, k [.v (.tup xs), .v (.tup ys)] _ _ n' [.ref a, .ref b] _ H' q rfl s2 fun ds vs => ⟨?_, ?_, ?_⟩⟩⟩
    · intro i ρ n ex σ H ews hi hl s
      obtain ⟨L, B, a', b', us, ws, e1, e2, s, ha, r1, hb, r2⟩ := main hl s
      cases e1; cases e2
      rw [zipD_len] at hi
      have h1 : i < us.length := by rw [r1.len]; omega
      have h2 : i < ws.length := by rw [r2.len]; omega
      exact ⟨us, ws, us[i], ws[i], ha, hb, List.getElem?_eq_getElem h1, List.getElem?_eq_getElem h2⟩
    · intro i d ρ n ex σ H ews z H2 hd hl s ⟨T, u, w, e1, e2, e3, e4, e5⟩
      obtain ⟨L, B, a', b', us, ws, f1, f2, s, ha, r1, hb, r2⟩ := main hl s
      cases f1; cases f2
      subst e1 e3
      obtain ⟨dx, dy, g1, g2, rfl⟩ := zipD_at hd
      obtain ⟨u', hu, ru⟩ := r1.at g1
      obtain ⟨w', hw, rw'⟩ := r2.at g2
      have := e4 us ha; rw [hu] at this; cases this
      have := e5 ws hb; rw [hw] at this; cases this
      exact ⟨L, B, s.pushT e2 (.cons ru (.cons rw' .nil))⟩
    · intro ρ n ex σ H ews hl s
      obtain ⟨L, B, a', b', us, ws, e1, e2, s, ha, r1, hb, r2⟩ := main hl s
      cases e1; cases e2
      refine ⟨us, ws, ha, hb, ?_⟩
      rw [zipD_len, r1.len, r2.len]
      omega
end
theorem pi_zipK {X : Cx} {K : PySem.W.Frag} {e e2 : Expr} {ta : TA} {p pos tpos : Pos} {elts : List Expr} {kk : Nat} (hg : Gl X "zip") (hm : X.mg "zip" = none) (ha : PA X [e, e2] ta)
    (hs : starEach [e, e2] X.env = (false, eval e X.env) :: starEach [e2] X.env := by rfl) (hpl : (backTo pos (starEach [e2] X.env)).any (·.1) = false := by rfl) (hK : X.K = K := by rfl) :
    PI X (.Tuple elts kk tpos) (.Call (.Name "zip" p) [e, e2] [] pos) (RZ.iZipA K ta) := by cases hK; exact RZ.pi_zipA hg hm ha hs hpl
/-! a, b, .. = a list or a tuple -/
def gSeq (K : PySem.W.Frag) (n : Nat) (t : TGs) : TG := fun v σ H Q => gUnl K n t v σ H Q ∨ gTup K n t v σ H Q
theorem pg_seqK {X : Cx} {K : PySem.W.Frag} {es : List Expr} {k : Nat} {pos : Pos} {t : TGs} (n : Nat) (hc : X.calm = true) (h : PGs X es t)
    (hn : (assignEach es X.env).length = n := by rfl) (hst : (assignEach es X.env).findIdx? (·.1) = none := by rfl) (hK : X.K = K := by rfl) : PG X (.Tuple es k pos) (gSeq K n t) := by
  cases hK
  refine ⟨fun pins s σ H v u Q I r hw => ?_⟩
  rcases hw with hw | hw
  · exact (HX.pg_unlK n hc h hn hst).run pins s σ H v u Q I r hw
  · exact (HX.pg_tupK n hc h hn hst).run pins s σ H v u Q I r hw
section
open HD
variable {K : PySem.W.Frag} {c : Wd K} {ρ : List S} {n : Nat} {ds : List I} {QG : QS}
theorem gseqL_ {m : Nat} {gs : TGs} {it : I} {xs : List D} (e : it.val = .lst xs) (hl : xs.length = m) (h : GGs c ρ n ds gs (xs.map I.v) QG) : GG c ρ n ds (gSeq K m gs) it QG := fun σ H vs v F s k => .inl (HD.gunl_ e hl h σ H vs v F s k)
theorem gseqT_ {m : Nat} {gs : TGs} {xs : List D} (hl : xs.length = m) (h : GGs c ρ n ds gs (xs.map I.v) QG) : GG c ρ n ds (gSeq K m gs) (.v (.tup xs)) QG := fun σ H vs v F s k => .inr (HD.gtup_ hl h σ H vs v F s k)
end
section
open HD
variable {K : PySem.W.Frag} {c : Wd K} {n : Nat} {ds : List I}
/-- behind a loop: the ways out come to one -/
theorem endBy {g : TG} {tb : TS} {nx bk ct : QS} {rt : I → Nat → Prop} (Mid : QS) : ∀ {xs : List D} {ρ : List S} {n : Nat}, ForD c ds g tb ⟨Mid, rt, bk, ct⟩ xs ρ n → (∀ ρ n, Mid ρ n → nx ρ n) → ForD c ds g tb ⟨nx, rt, bk, ct⟩ xs ρ n
  | [], _, _, h, h2 => h2 _ _ h
  | x :: xs, _, _, h, h2 => fun σ H vs v F s k => h σ H vs v F s fun ρ1 n1 σ1 H1 q s1 => k _ _ _ _ (q.mono (fun ρ n z => endBy Mid z h2) (fun _ _ z => z) (fun ρ n z => h2 ρ n z) (fun ρ n z => endBy Mid z h2)) s1
end
end HU
/-! a law whose own body calls repr: its promise is wanted only where no repr is under way -/
namespace HV
open PySem PySem.Spec PyProof.Rows L2 HX
structure FnG (P : Program) (w : World) (K : PySem.W.Frag) (mg : Str → Option Value) (base : Heap) (k : Nat) (f : Addr) (fd : FuncData) (ps : List Str) (sp : Sp) : Prop where
  run : ∀ (A : Around) (outer : List Env) (s : Shared) (H : Hp) (us : List Value) (vs : List V) (Q : VK) (E : XK), A.guards = some [] → Room k A → Env0 P w K mg base A outer s H → BindsTo s fd ⟨us, []⟩ (ps.zip us) → Vals vs us → sp vs H Q E →
    codeAny (model P w) A (.call (.ref f) ⟨us, []⟩) (CR CX0 outer P w H s Q E) s
section
variable {P : Program} {w : World} {K : PySem.W.Frag} {mg : Str → Option Value} {base : Heap}
theorem okG {x qual : Str} {st : Stmt} {f : Addr} {fd : FuncData} {N ps : List Str} {k : Nat} {sp : Sp} (F : Fun K x qual st f fd) (S : FnScope N ps (defScope st)) (len : ∀ vs H Q E, sp vs H Q E → vs.length = ps.length)
    (hbody : ∀ (cdv : Value) (A : Around) (outer : List Env) (s : Shared) (H : Hp) (vs : List V) (Q : VK) (E : XK), (A.deeper (envOfC qual (defScope st) s.heap.objs.size f cdv)).guards = some [] → Room k (A.deeper (envOfC qual (defScope st) s.heap.objs.size f cdv)) → sp vs H Q E →
      ∃ t, PSs (cxOf CX0 P w K mg base N qual (defScope st) f cdv A outer s H E).nox (defBody st) t ∧ t { nx := fun _ H' => Q .non H', rt := Q } (start N vs) H) : FnG P w K mg base (k + 1) f fd ps sp := by
  obtain ⟨oc, od, kV, doc, pm, an, cdv, ct, osl, rfl, lk, hcd⟩ := F.ex
  refine ⟨fun A outer s H us vs Q E hg hr e0 hb r hsp => ?_⟩
  have KX : K.In s.heap := e0.mod.kin.keeps fun b o e => (e0.bs b o e).1
  have lim : s.heap.NoLimit := e0.mod.nolimit.keeps fun b o e => (e0.bs b o e).1
  refine Att.call_fn KX lim lk hcd hr.depth hb ?_ (fun s1 x => ?_) S.co S.gen S.kind
  · refine List.all_eq_true.mpr fun y hy => ?_
    rcases S.par y.1 (List.of_mem_zip (a := y.1) (b := y.2) hy).1 with q | q <;> rw [q] <;> rfl
  · obtain ⟨t, ht, hq⟩ := hbody cdv A outer s H vs Q E hg (hr.deeper _) hsp
    have I := inv_start (CX := CX0) (E := E) S hr.hd e0 (len _ _ _ _ hsp) r x
    refine wpAny_mono (ht.nox.run [] s1 (start N vs) H _ I hq) (fun fl s' hs => ?_) fun e s' hs => hs
    cases fl with
    | ret u =>
      obtain ⟨v, σ', H', J, rv, q⟩ := hs
      exact ⟨v, H', J.os, J.bare, J.base, J.hok, rv, q⟩
    | next =>
      obtain ⟨σ', H', J, q⟩ := hs
      exact ⟨.non, H', J.os, J.bare, J.base, J.hok, rfl, q⟩
    | brk => obtain ⟨_, _, _, q⟩ := hs; exact q.elim
    | cont => obtain ⟨_, _, _, q⟩ := hs; exact q.elim
/-- the promise, taken at the call that the statement makes -/
theorem at_call {k : Nat} {fa a : Addr} {fd : FuncData} {x : Str} {sp : Sp} {s : Shared} {H : Hp} {mb : Str → Option Value} {vs : List Value} (KX : K.In s.heap) (hns : s.heap.Ns mainGlobals mg) (hb : s.heap.Ns builtinsNs mb) (hbb : ∀ x : Str, x ≠ "__name__" → mb x = bootBuiltins x) (hlim : s.heap.NoLimit) (hg : s.gens = #[])
    (ha : s.heap.get? a = some { cls := .type "list", data := .seq vs.toArray }) (hr : Room k callerA) (F : ∀ base : Heap, K.In base → base.Ns mainGlobals mg → FnG P w K mg base k fa fd [x] sp) (hbind : ∀ (s : Shared) (u : Value), BindsTo s fd ⟨[u], []⟩ [(x, u)])
    (hO : ∀ b, H b = none ∨ (b = a ∧ ∃ o xs, H b = some (.frz o (.lst xs)))) (hok : HOk P w H s.heap) (hK : H a ≠ none → K.lookup a = none) (hsp : sp [.ref a] H (fun v _ => v = .bl true) fun _ _ _ => False) :
    codeAny (model P w) callerA (.call (.ref fa) ⟨[.ref a], []⟩) (fun r s' => r = .ok (.ret (.bool true)) ∧ OldK s.heap s'.heap ∧ s'.os = s.os ∧ AllBare s'.gens) s := by
  have un : ∀ {b : Addr}, b ≠ a → H b = none := fun {b} h => (hO b).resolve_right fun z => h z.1
  have ns : ∀ {b : Addr} {m : Str → Option Value}, s.heap.Ns b m → (hidT s.heap H).Ns b m := fun {b m} ⟨o, es, ep, e, d, r⟩ => by
    refine ⟨o, es, ep, hidT_get e (un fun z => ?_), d, r⟩
    subst z
    rw [ha] at e
    cases e
    exact absurd (show Data.seq vs.toArray _ = Data.dict es ep from d) (by simp)
  have kin : K.In (hidT s.heap H) := fun b o e => by
    refine hidT_get (KX b o e) ?_
    by_cases z : b = a
    · subst z
      rcases hO b with y | ⟨_, o, xs, y⟩
      · exact y
      · have := hK (by rw [y]; simp)
        rw [this] at e; cases e
    · exact un z
  have md : Mod K mg (hidT s.heap H) := ⟨kin, ns hns, ⟨mb, ns hb, hbb⟩, by obtain ⟨mc, h1, h2⟩ := hlim; exact ⟨mc, ns h1, h2⟩⟩
  have e0 : Env0 P w K mg (hidT s.heap H) callerA [] s H := ⟨rfl, md, fun b o e => of_hidT e, Nat.le_of_eq (hidT_size _ _), trivial, fun b hb => absurd (show b ∈ ([] : List Addr) from hb) (by simp), hok, .of_eq hg⟩
  refine codeAny_mono ((F _ kin (ns hns)).run callerA [] s H [.ref a] [.ref a] _ _ rfl hr e0 (hbind s (.ref a)) (.cons rfl .nil) hsp) fun r s' h => ?_
  cases r with
  | error e => exact h.elim
  | ok fl =>
    cases fl with
    | ret u =>
      obtain ⟨v, H', os, bare, ko, hok', r', q⟩ := h
      cases (show v = .bl true from q)
      cases (show u = Value.bool true from r')
      refine ⟨rfl, OldK.of_keep fun b o e => ?_, os, bare⟩
      rcases hO b with z | ⟨_, ob, xs, z⟩
      · exact ko.keep b o e z (fun y => by cases y) (by simp)
      · obtain ⟨e1, _⟩ := hok b _ z
        obtain ⟨e2, _⟩ := hok' b _ (ko.frzs b ob _ z)
        rw [e] at e1
        cases e1
        exact e2
    | next => exact h.elim
    | brk => exact h.elim
    | cont => exact h.elim
end
theorem walkG {l : PySem.W.OpenLaw} {n k : Nat} {q : Program} {loose : List Str} {XP : (Str → Option Value) → Heap → Prop} {YP : World → Heap → Prop} {d : DefRec} {K : Params → PySem.W.Frag} {sp : World → Sp} {x : Str}
    (hn : l.most = some n) (hn2 : n ≤ sizeLine) (hdf : d.params.defaults = []) (hr : Room k callerA)
    (hY : ∀ (w : World) (h : Heap), YP w h → (K w.params).In h)
    (F : ∀ (w : World) (mg : Str → Option Value) (fa : Addr) (h : Heap), (K w.params).In h → h.Ns mainGlobals mg → mg d.name = some (.ref fa) →
      ∃ fd : FuncData, (∀ (s : Shared) (u : Value), BindsTo s fd ⟨[u], []⟩ [(x, u)]) ∧ ∀ base : Heap, (K w.params).In base → base.Ns mainGlobals mg → FnG l.prog w (K w.params) mg base k fa fd [x] (sp w))
    (hsp : ∀ (w : World) (H : Hp) (a : Addr) (ns : List Int), ns.length ≤ n → SqL (K w.params) H a (ns.map V.int) → sp w [.ref a] H (fun v _ => v = .bl true) fun _ _ _ => False) :
    PySem.W.WalkO q loose XP YP l.row.toRowW d [] (fun f vs => PySem.call f vs) := by
  refine Att.attach_call hn hdf fun w s₀ s mg mb fa o pm cd doc a vs ns G Y ho hd hcd hmg ha hi hl hg => ?_
  obtain ⟨fd, hb, hF⟩ := F w mg fa _ (hY w _ Y) G.T.g hmg
  have rv := vals_ints hi
  have hl2 : ns.length ≤ sizeLine := Nat.le_trans hl hn2
  have go := fun H h1 h2 h3 h4 => at_call (P := l.prog) (w := w) (K := K w.params) (H := H) (hY w _ Y) G.T.g G.T.b G.T.builtins G.T.nolimit hg ha hr hF hb h1 h2 h3 (hsp w H a ns hl h4)
  by_cases hk : (K w.params).lookup a = none
  · refine go (fun b => if b = a then some (.frz { cls := .type "list", data := .seq vs.toArray } (.lst (ns.map V.int))) else none) (fun b => ?_) (fun b u z => ?_) (fun _ => hk) (.inl (.inr ⟨_, if_pos rfl⟩))
    · by_cases e : b = a
      · exact .inr ⟨e, _, _, if_pos e⟩
      · exact .inl (if_neg e)
    · by_cases e : b = a
      · cases (if_pos e).symm.trans z
        subst e
        exact ⟨ha, by rw [List.length_map]; exact hl2, vs, _, rv, ha⟩
      · cases (if_neg e).symm.trans z
  · obtain ⟨o, e⟩ := Option.ne_none_iff_exists'.mp hk
    have e2 := hY w _ Y a o e
    rw [ha] at e2
    cases e2
    refine go (fun _ => none) (fun b => .inl rfl) (fun b u z => by cases (show (none : Option HO) = some u from z)) (fun z => absurd rfl z) (.inr ⟨_, vs.toArray, _, e, rfl, rfl, rfl, by rw [List.size_toArray, hi.length]; exact hl2, by simpa using rv⟩)
end HV
/-! enumerate of a list or a tuple -/
namespace HW
open PySem PySem.Spec PyProof.Rows L2 HX
theorem meets_enum1 {v : Value} {o : Obj} {H : Heap → Prop} (B : Begins v o H) :
    Meets (Builtin.«enumerate.__new__» ⟨[.type "enumerate", v], []⟩) (fun _ R s => H s.heap ∧
      R (.ok (.ret (.ref (s.heap.push o).objs.size))) { s with heap := (s.heap.push o).push { cls := .type "enumerate", data := .fields #[.none, .bool false, .ref s.heap.objs.size, rawInt 0, .none, .none] } }) :=
  .of_wp fun prog w A R s h => by
    obtain ⟨hp, g, d, tk, os⟩ := s; obtain ⟨h1, h⟩ := h
    have hsub := sub_enumerate
    have q1 : ∀ {A' : Around} {E : Value → Shared → Prop} {Q : Value → Shared → Prop}, Q (.ref hp.objs.size) ⟨hp.push o, g, d, tk, os⟩ → wpAny (model prog w) A' (pyIter v) Q E ⟨hp, g, d, tk, os⟩ :=
      fun q => B.iter prog w _ _ ⟨hp, g, d, tk, os⟩ _ h1 q
    wp_walk using q1
    refine wpAny_stack_any fun st => wpAny_pure ?_
    split
    · rename_i c _ _ _ _ _
      cases (c == Value.type "enumerate")
      · wp_walk using q1
        exact ⟨_, rfl, h⟩
      · wp_walk using q1
        exact ⟨_, rfl, h⟩
    · wp_walk using q1
      exact ⟨_, rfl, h⟩
theorem call_enum1 {prog : Program} {w : World} {A : Around} {E : Value → Shared → Prop} {s : Shared} {v : Value} {o : Obj} {H : Heap → Prop} {Q : Value → Shared → Prop} (B : Begins v o H) (h1 : H s.heap)
    (h : ∀ h', IsEnum h' (s.heap.objs.size + 1) s.heap.objs.size 0 .none → h'.get? s.heap.objs.size = some o → h'.objs.size = s.heap.objs.size + 2 →
      (∀ b o, s.heap.get? b = some o → h'.get? b = some o) → Q (.ref (s.heap.objs.size + 1)) { s with heap := h' }) :
    wpAny (model prog w) A (call (.type "enumerate") [v]) Q E s := by
  refine callType_new F.called_enumerate (by decide) (F.typeCall_enumerate_1 _) (F.newCall_enumerate_1 _) (fun obj => F.args_object_init_2 obj _) F.entry_enumerate_new
    (meets_enum1 B) ⟨h1, ?_⟩
  have hz : (s.heap.push o).objs.size = s.heap.objs.size + 1 := Heap.size_push ..
  show _ ∧ _
  rw [hz]
  have he : IsEnum ((s.heap.push o).push { cls := .type "enumerate", data := .fields #[.none, .bool false, .ref s.heap.objs.size, rawInt 0, .none, .none] }) (s.heap.objs.size + 1) s.heap.objs.size 0 .none := by
    have := Heap.get?_push_size (s.heap.push o) (o := { cls := .type "enumerate", data := .fields #[.none, .bool false, .ref s.heap.objs.size, rawInt 0, .none, .none] }) rfl
    rw [hz] at this; exact this
  exact ⟨⟨_, he, rfl⟩, h _ he (Heap.get?_push_of_some _ (Heap.get?_push_size _ B.free)) (by rw [Heap.size_push, hz]) fun b o x => Heap.get?_push_of_some _ (Heap.get?_push_of_some _ x)⟩
/-- the tuple at a, each item in a new pair -/
def IteT (K : PySem.W.Frag) (a : Addr) : It :=
  ⟨fun i H => ∃ (xs : List V) (x : V), SqT K H a xs ∧ xs[i]? = some x, fun i H v H' => ∃ T x, v = .ref T ∧ H T = none ∧ H' = upd H T (.tup [.int (i : Nat), x]) ∧ ∀ xs, SqT K H a xs → xs[i]? = some x, fun i H => ∃ xs : List V, SqT K H a xs ∧ xs.length ≤ i⟩
theorem turn_enumT {P : Program} {w : World} {K : PySem.W.Frag} {elts : List Expr} {kk : Nat} {tpos : Pos} (a e it : Addr) :
    Turn P w K (.Tuple elts kk tpos) (IteT K a) [e, it] e (fun i h => (∃ old, IsEnum h e it ((i : Nat) : Int) old) ∧ h.IsTupleIter it a i ∧ e ≠ it ∧ a ≠ it ∧ e ≠ a) where
  mem := by simp
  obj := fun i h st b hb => by
    obtain ⟨⟨old, he⟩, ⟨o, ho, hc, hd⟩, _⟩ := st
    have e' : b = e ∨ b = it := by simpa using hb
    rcases e' with z | z
    · rw [z]; exact ⟨_, he, fun v q => nomatch q⟩
    · rw [z]; exact ⟨o, ho, fun v q => by rw [hd] at q; cases q⟩
  keep := fun i h h' st k => let ⟨⟨old, he⟩, hi, hne⟩ := st; ⟨⟨old, k e (by simp) _ he⟩, hi.at fun o q => k it (by simp) o q, hne⟩
  item := by
    intro X hP hw hK hc i pins s σ H E I hf st hg
    subst hP hw hK
    obtain ⟨⟨old, he⟩, hit, hne, hai, hea⟩ := st
    obtain ⟨xs, x, hq, hx⟩ := hg
    obtain ⟨its, rv, p, hz⟩ := I.tuple hq
    obtain ⟨u, hu, ru⟩ := rv.get hx
    have hel : e < s.heap.objs.size := Heap.lt_size he
    have hil : it < s.heap.objs.size := by obtain ⟨_, q, _⟩ := hit; exact Heap.lt_size q
    have hh : X.A.in1.handled = none := I.ok.hd hc
    refine wpAny_pyNext_enum_itemC (Draws.tuple hh it a hai its.toArray) he ⟨hit, p⟩ (by simpa using (List.getElem?_eq_some_iff.mp hu).1) hne (by simp [hne, hea]) fun x' h' tk hx' ho hit' hT hsz hk => ?_
    have ex' : x' = u := by
      have q1 : its.toArray[i]? = some x' := hx'
      have q2 : its.toArray[i]? = some u := by simpa using hu
      rw [q2] at q1; cases q1; rfl
    subst ex'
    refine ⟨_, rfl, wpAny_letOwnedTupleGo_enum (s := { s with heap := h', toks := tk + 1 }) ho fun h'' he' sb => ?_⟩
    have hT2 : h''.get? s.heap.objs.size = some { cls := .type "tuple", data := .seq #[.int i tk, x'] } := (sb.2 _ (Nat.ne_of_gt hel)).trans hT
    have new : ObjOk X.prog X.w (upd H s.heap.objs.size (.tup [.int (i : Nat), x])) h'' s.heap.objs.size (.tup [.int (i : Nat), x]) :=
      ⟨by show 2 ≤ sizeLine; decide, [.int i tk, x'], .cons ⟨_, rfl⟩ (.cons ru .nil), ⟨_, hT2, rfl, _, rfl⟩⟩
    have I1 : Inv X pins σ (upd H s.heap.objs.size (.tup [.int (i : Nat), x])) { s with heap := h'', toks := tk + 1 } :=
      I.turnedNew (ch := [e, it]) (fun b ob hb q => (sb.2 b (fun z => hb (by simp [z]))).trans (hk b ob (fun z => hb (by simp [z])) (fun z => hb (by simp [z])) q)) hf (Nat.le_refl _) new
    refine ⟨.ref s.heap.objs.size, _, I1, rfl, ⟨_, x, rfl, I.hok.fresh (Nat.le_refl _), rfl, fun ys hy => by rw [I.tuple_inj hy hq]; exact hx⟩, ⟨⟨x', ?_⟩, hit'.1.at fun o q => (sb.2 it (Ne.symm hne)).trans q, hne, hai, hea⟩, fun b hb => ?_⟩
    · have e1 : ((i + 1 : Nat) : Int) = (i : Int) + 1 := by omega
      rw [e1]; exact he'
    · have hb' : b < s.heap.objs.size := by
        have e' : b = e ∨ b = it := by simpa using hb
        rcases e' with z | z
        · rw [z]; exact hel
        · rw [z]; exact hil
      rw [upd_ne (Nat.ne_of_lt hb')]
      exact (hf b hb).1
  done := by
    intro X hP hw hK hc i pins s σ H E I hf st hg
    subst hP hw hK
    obtain ⟨⟨old, he⟩, hit, hne, hai, hea⟩ := st
    obtain ⟨xs, hq, hx⟩ := hg
    obtain ⟨its, rv, p, hz⟩ := I.tuple hq
    have hl := rv.length
    obtain ⟨f0, f1, f2, f3, f4, f5⟩ := hf it (by simp)
    have hT : s.TypeIs (.ref e) "enumerate" := ⟨_, he, rfl⟩
    have hh : X.A.in1.handled = none := I.ok.hd hc
    unfold pyNext
    refine wpAny_bind (wpAny_attempt (wpAny_callSpecial?_slot (name := Str.ofString "__next__") hT F.slot_enumerate_next
      (wpAny_call_entry F.slot_enumerate_next hT F.entry_enumerate_next ?_ (F.args_enumerate_next_1 _))))
    show wpAny _ _ (field (.ref e) 2 >>= _) _ _ _
    refine wpAny_bind (wpAny_field he rfl (x := .ref it) rfl ?_)
    refine wpAny_bind (wpAny_nextOf_tuple_end hh hit p (by simp; omega) fun h' x he' hx' => ?_)
    obtain ⟨o, ho, hc⟩ := hx'
    refine wpAny_bind (wpAny_isInstance (T := "StopIteration") (b := true) ⟨o, ho, hc⟩ isSubtype_stop ?_)
    exact wpAny_pure ⟨rfl, I.turned (t' := s.toks) (fun b o hb q => he' b o hb q) f0 f1 f3 f4 f5⟩
  self := fun A i s Q E st h => let ⟨⟨_, he⟩, _⟩ := st; wpAny_pyIter_enum he h
def iEnA (K : PySem.W.Frag) (ta : TA) : TI := fun σ H R => ta σ H fun vs H1 => ∃ a xs, vs = [.ref a] ∧ ((SqL K H1 a xs ∧ R (Ite K a) H1) ∨ (SqT K H1 a xs ∧ R (IteT K a) H1))
theorem pi_enA {X : Cx} {e : Expr} {ta : TA} {p pos tpos : Pos} {elts : List Expr} {kk : Nat} (hg : Gl X "enumerate") (hm : X.mg "enumerate" = none) (ha : PA X [e] ta) (hs : starEach [e] X.env = [(false, eval e X.env)] := by rfl) :
    PI X (.Tuple elts kk tpos) (.Call (.Name "enumerate" p) [e] [] pos) (iEnA X.K ta) := by
  refine ⟨fun pins s σ H R I h => ?_⟩
  refine Call_ (ld_blt I hg hm boot_enumerate (PyProof.Rows.callWith_type1 (thn (ha.run pos pins s σ H _ I h) fun us s1 ⟨vs, H1, I1, r1, q1⟩ => ?_) hs rfl))
  obtain ⟨a, xs, ex, q1⟩ := q1
  subst ex
  cases r1 with
  | cons r rr =>
    cases rr
    cases r
    have fr : ∀ b ∈ [s1.heap.objs.size + 1, s1.heap.objs.size], FpOk X pins H1 b := fun b hb => by
      have e' : b = s1.heap.objs.size + 1 ∨ b = s1.heap.objs.size := by simpa using hb
      have hle : s1.heap.objs.size ≤ b := by
        rcases e' with z | z
        · rw [z]; exact Nat.le_add_right _ _
        · rw [z]; exact Nat.le_refl _
      exact I1.fpOk hle (I1.hok.fresh hle)
    rcases q1 with ⟨hq, q⟩ | ⟨hq, q⟩
    · obtain ⟨its, rv, p', hz⟩ := I1.list hq
      refine call_enumerate_list p'.isList fun h' he hit hsz hk => wpAny_pyIter_enum he ?_
      have I2 : Inv X pins σ H1 { s1 with heap := h' } := I1.kept (t' := s1.toks) hk
      exact ⟨s1.heap.objs.size + 1, [s1.heap.objs.size + 1, s1.heap.objs.size], _, _, H1, rfl, I2, turn_enum a (s1.heap.objs.size + 1) s1.heap.objs.size, ⟨⟨.none, he⟩, hit, Nat.succ_ne_self _⟩, fr, q⟩
    · obtain ⟨its, rv, p', hz⟩ := I1.tuple hq
      obtain ⟨o, ho, _⟩ := id p'
      have hal : a < s1.heap.objs.size := Heap.lt_size ho
      refine call_enum1 (begins_tuple a its.toArray) p' fun h' he hit hsz hk => wpAny_pyIter_enum he ?_
      have I2 : Inv X pins σ H1 { s1 with heap := h' } := I1.kept (t' := s1.toks) hk
      exact ⟨s1.heap.objs.size + 1, [s1.heap.objs.size + 1, s1.heap.objs.size], _, _, H1, rfl, I2, turn_enumT a (s1.heap.objs.size + 1) s1.heap.objs.size, ⟨⟨.none, he⟩, ⟨_, hit, rfl, rfl⟩, Nat.succ_ne_self _, Nat.ne_of_lt hal, Nat.ne_of_gt (Nat.lt_succ_of_lt hal)⟩, fr, q⟩
theorem pi_enK {X : Cx} {K : PySem.W.Frag} {e : Expr} {ta : TA} {p pos tpos : Pos} {elts : List Expr} {kk : Nat} (hg : Gl X "enumerate") (hm : X.mg "enumerate" = none) (ha : PA X [e] ta) (hs : starEach [e] X.env = [(false, eval e X.env)] := by rfl) (hK : X.K = K := by rfl) :
    PI X (.Tuple elts kk tpos) (.Call (.Name "enumerate" p) [e] [] pos) (iEnA K ta) := by cases hK; exact pi_enA hg hm ha hs
open HD
/-- the items with their numbers -/
def enumF : Nat → List D → List D
  | _, [] => []
  | i, x :: xs => .tup [.int (i : Nat), x] :: enumF (i + 1) xs
def enumD (xs : List D) : List D := enumF 0 xs
theorem enumF_len : ∀ (i : Nat) (xs : List D), (enumF i xs).length = xs.length
  | _, [] => rfl
  | i, _ :: xs => by rw [enumF, List.length_cons, List.length_cons, enumF_len]
theorem enumF_at : ∀ {j : Nat} {xs : List D} {i : Nat} {d : D}, (enumF j xs)[i]? = some d → ∃ x, xs[i]? = some x ∧ d = .tup [.int ((j + i : Nat) : Int), x]
  | _, [], _, _, h => by cases h
  | j, x :: xs, 0, d, h => by cases h; exact ⟨x, rfl, rfl⟩
  | j, x :: xs, i + 1, d, h => by
    obtain ⟨y, e1, e2⟩ := enumF_at (j := j + 1) (xs := xs) (i := i) h
    exact ⟨y, e1, by rw [e2, show j + 1 + i = j + (i + 1) by omega]⟩
theorem enumD_len {xs : List D} : (enumD xs).length = xs.length := enumF_len _ _
theorem enumD_at {xs : List D} {i : Nat} {d : D} (h : (enumD xs)[i]? = some d) : ∃ x, xs[i]? = some x ∧ d = .tup [.int (i : Nat), x] := by
  obtain ⟨x, e1, e2⟩ := enumF_at h
  exact ⟨x, e1, by rw [e2, Nat.zero_add]⟩
section
variable {K : PySem.W.Frag} {c : Wd K} {ρ : List S} {n : Nat} {ds : List I}
theorem en_L {xs : List D} {σ : L2.St} {H : Hp} {x : V} {vs : List V} {F : It → Hp → Prop} (s2 : St c ρ n (.v (.lst xs) :: ds) σ H (x :: vs)) (k : ∀ J, (∀ ds vs, Wk c [.v (.lst xs)] ds [x] vs J (enumD xs)) → F J H) : ∃ a us, [x] = [V.ref a] ∧ ((SqL K H a us ∧ F (Ite K a) H) ∨ (SqT K H a us ∧ F (IteT K a) H)) := by
  have main : ∀ {ds : List I} {vs : List V} {ρ : List S} {n : Nat} {ex : List I} {σ : L2.St} {H : Hp} {ews : List V}, ews.length = ex.length → St c ρ n (ex ++ ([.v (.lst xs)] ++ ds)) σ H (ews ++ ([x] ++ vs)) → ∃ L B a us, x = .ref a ∧ StX c L B ρ n (ex ++ ([.v (.lst xs)] ++ ds)) σ H (ews ++ ([x] ++ vs)) ∧ H a = some (.lst us) ∧ RA K c.g (Mo c (L ++ B)) H us xs := by
    intro ds vs ρ n ex σ H ews hl ⟨L, B, s⟩
    have r1 := s.peek (d := .lst xs) (w := x) hl
    cases r1 with
    | lst _ h1 q1 => exact ⟨L, B, _, _, rfl, s, h1, q1⟩
  obtain ⟨_, _, a, us, rfl, _, ha, _⟩ := main (ex := []) (ews := []) rfl s2
  refine ⟨a, us, rfl, .inl ⟨SqL.of ha, k _ fun ds vs => ⟨?_, ?_, ?_⟩⟩⟩
  · intro i ρ n ex σ H ews hi hl s
    obtain ⟨L, B, a', us, e1, s, ha, r1⟩ := main hl s
    cases e1
    rw [enumD_len] at hi
    have h1 : i < us.length := by rw [r1.len]; omega
    exact ⟨us, us[i], SqL.of ha, List.getElem?_eq_getElem h1⟩
  · intro i d ρ n ex σ H ews z H2 hd hl s ⟨T, u, e1, e2, e3, e4⟩
    obtain ⟨L, B, a', us, f1, s, ha, r1⟩ := main hl s
    cases f1
    subst e1 e3
    obtain ⟨dx, g1, rfl⟩ := enumD_at hd
    obtain ⟨u', hu, ru⟩ := r1.at g1
    have := e4 us (SqL.of ha); rw [hu] at this; cases this
    exact ⟨L, B, s.pushT e2 (.cons (.int _) (.cons ru .nil))⟩
  · intro ρ n ex σ H ews hl s
    obtain ⟨L, B, a', us, e1, s, ha, r1⟩ := main hl s
    cases e1
    refine ⟨us, SqL.of ha, ?_⟩
    rw [enumD_len, r1.len]
    exact Nat.le_refl _
theorem en_T {xs : List D} {σ : L2.St} {H : Hp} {x : V} {vs : List V} {F : It → Hp → Prop} (s2 : St c ρ n (.v (.tup xs) :: ds) σ H (x :: vs)) (k : ∀ J, (∀ ds vs, Wk c [.v (.tup xs)] ds [x] vs J (enumD xs)) → F J H) : ∃ a us, [x] = [V.ref a] ∧ ((SqL K H a us ∧ F (Ite K a) H) ∨ (SqT K H a us ∧ F (IteT K a) H)) := by
  have main : ∀ {ds : List I} {vs : List V} {ρ : List S} {n : Nat} {ex : List I} {σ : L2.St} {H : Hp} {ews : List V}, ews.length = ex.length → St c ρ n (ex ++ ([.v (.tup xs)] ++ ds)) σ H (ews ++ ([x] ++ vs)) → ∃ L B a us, x = .ref a ∧ StX c L B ρ n (ex ++ ([.v (.tup xs)] ++ ds)) σ H (ews ++ ([x] ++ vs)) ∧ SqT K H a us ∧ RA K c.g (Mo c (L ++ B)) H us xs := by
    intro ds vs ρ n ex σ H ews hl ⟨L, B, s⟩
    have r1 := s.peek (d := .tup xs) (w := x) hl
    cases r1 with
    | tup h1 q1 => exact ⟨L, B, _, _, rfl, s, h1.sqt, q1⟩
  obtain ⟨_, _, a, us, rfl, _, ha, _⟩ := main (ex := []) (ews := []) rfl s2
  refine ⟨a, us, rfl, .inr ⟨ha, k _ fun ds vs => ⟨?_, ?_, ?_⟩⟩⟩
  · intro i ρ n ex σ H ews hi hl s
    obtain ⟨L, B, a', us, e1, s, ha, r1⟩ := main hl s
    cases e1
    rw [enumD_len] at hi
    have h1 : i < us.length := by rw [r1.len]; omega
    exact ⟨us, us[i], ha, List.getElem?_eq_getElem h1⟩
  · intro i d ρ n ex σ H ews z H2 hd hl s ⟨T, u, e1, e2, e3, e4⟩
    obtain ⟨L, B, a', us, f1, s, ha, r1⟩ := main hl s
    cases f1
    subst e1 e3
    obtain ⟨dx, g1, rfl⟩ := enumD_at hd
    obtain ⟨u', hu, ru⟩ := r1.at g1
    have := e4 us ha; rw [hu] at this; cases this
    exact ⟨L, B, s.pushT e2 (.cons (.int _) (.cons ru .nil))⟩
  · intro ρ n ex σ H ews hl s
    obtain ⟨L, B, a', us, e1, s, ha, r1⟩ := main hl s
    cases e1
    refine ⟨us, ha, ?_⟩
    rw [enumD_len, r1.len]
    exact Nat.le_refl _
/-- enumerate of a list or a tuple -/
theorem ien_ {ta : TA} {Q : List I → List D → QS} (h : GA c ρ n ds ta fun its ρ' n' => ∃ it xs, its = [it] ∧ it.seq = some xs ∧ Q [.v it.val] (enumD xs) (frz1 ρ' it) n') : GI c ρ n ds (iEnA K ta) Q := fun σ H vs F s k =>
  h σ H vs _ s fun its ρ' n' ws H' ⟨it, xs, e, es, q⟩ hl s1 => by
    subst e
    match ws, hl with
    | [x], _ =>
    have s2 := St.frz1 (ds := ds) s1
    have es' : it.val.seq = some xs := es
    generalize it.val = d at s2 es' q
    cases d with
    | lst ys => cases es'; exact en_L (c := c) (ρ := frz1 ρ' it) (n := n') s2 fun J wk => k [.v (.lst xs)] _ _ n' [x] J H' q rfl s2 wk
    | tup ys => cases es'; exact en_T (c := c) (ρ := frz1 ρ' it) (n := n') s2 fun J wk => k [.v (.tup xs)] _ _ n' [x] J H' q rfl s2 wk
    | _ => cases es'
theorem exen_ {it : I} {xs : List D} {P : I → List D → Prop} (e : it.seq = some xs) (h : P it xs) : ∃ it' xs', [it] = [it'] ∧ it'.seq = some xs' ∧ P it' xs' := ⟨it, xs, rfl, e, h⟩
end
end HW
/-! sorted of lists of data; an empty tuple may stand first -/
namespace PySem.W
open PySem PySem.Calls PyProof.Rows PySem.SeqAt
/-- all are tuples, the first one empty -/
def FirstE (ds : List PyData) : Prop := (∃ r, ds = .tuple [] :: r) ∧ ∀ d, d ∈ ds → ∃ xs, d = .tuple xs
section
variable {prog : Program} {w : World} {A : Around} {E : Value → Shared → Prop} {s : Shared}
theorem call_tuple_lt {Q : Value → Shared → Prop} {l b : Addr} {items items2 : Array Value} {e r : Nat → Bool} (hl : s.heap.IsTuple l items) (hb : s.heap.IsTuple b items2)
    (he : ∀ j (h1 : j < items.size) (h2 : j < items2.size), EqAt A.in1 s items[j] items2[j] (e j)) (hr : ∀ j (h1 : j < items.size) (h2 : j < items2.size), e j = false → RcLt A.in1 s items[j] items2[j] (r j))
    (h : Q (.bool (firstLt e r (decide (items.size < items2.size)) (List.range (min items.size items2.size)))) s) : wpAny (model prog w) A (call (.builtin "tuple.__lt__") [.ref l, .ref b]) Q E s := by
  obtain ⟨⟨cls, dd, data, sl⟩, ho, hc, n, hd⟩ := id hl
  obtain ⟨⟨cls2, dd2, data2, sl2⟩, ho2, hc2, n2, hd2⟩ := id hb
  simp only at hc hd hc2 hd2
  subst hc hd hc2 hd2
  exact call_meets F.slot_tuple_lt ⟨_, ho, rfl⟩ F.entry_tuple_lt (F.args_tuple_lt_2 _ _) (tuple_ltAt l b items items2 n n2 dd dd2 sl sl2 e r) ⟨ho, ho2, he, hr, h⟩
theorem oneLt_tups {xs ys : List PyData} {a b : Value} {as bs : List Addr} {Q : Bool → Shared → Prop} (ra : Reads s.heap a (.tuple xs) as) (rb : Reads s.heap b (.tuple ys) bs) (hal : alikeAll xs ys = true)
    (hu : A.units + min (PyData.depth (.tuple xs)) (PyData.depth (.tuple ys)) < cLine) (hq : Q (dataLt (.tuple xs) (.tuple ys)) s) : wpAny (model prog w) A (oneLt' true a b) Q E s := by
  cases ra with
  | @tuple l o vs n _ as₁ h1 h2 h3 h4 =>
    cases rb with
    | @tuple l' o' vs' n' _ bs₁ k1 k2 k3 k4 =>
      have n1 : vs.size = xs.length := by simpa using ReadsAll.length _ _ _ h4
      have n2 : vs'.size = ys.length := by simpa using ReadsAll.length _ _ _ k4
      rw [dataLt_tuple, ← firstLt_toks xs ys hal, ← n1, ← n2] at hq
      rw [oneLt'_eq]
      simp only [if_true]
      refine wpAny_bind (wpAny_cRoomFor (room_here hu) ?_)
      refine wpAny_bind (wpAny_callSpecialIfBound?_slot (T := "tuple") ⟨_, h1, h2⟩ F.slot_tuple_lt (call_tuple_lt (e := pairEq xs ys) (r := fun j => dataLt (xs.getD j .none) (ys.getD j .none)) ⟨_, h1, h2, _, h3⟩ ⟨_, k1, k2, _, k3⟩ (fun j j1 j2 => ?_) (fun j j1 j2 hj => ?_) ?_))
      · have := eqAt_alikeAll xs ys A.in1 s vs.toList vs'.toList _ _ h4 k4 hal (room_in hu) j (by simpa using j1) (by simpa using j2)
        simpa using this
      · have := rcLt_alikeAll xs ys A.in1 s vs.toList vs'.toList _ _ h4 k4 hal (room_in hu) j (by simpa using j1) (by simpa using j2) hj
        simpa using this
      · exact wpAny_truthy_bool hq
/-- the first items of tuples, asked one by one -/
theorem firsts_ask : ∀ {vs : List Value} {ds : List PyData} {Q : List (Option Value) → Shared → Prop}, EachIs (fun v d => ∃ as, Reads s.heap v d as) vs ds → (∀ d, d ∈ ds → ∃ xs, d = .tuple xs) →
    (∀ fs, EachIs (fun f d => d = PyData.tuple [] → f = none) fs ds → Q fs s) → wpAny (model prog w) A (vs.mapM firstOfTuple') Q E s
  | _, _, _, .nil, _, h => by rw [List.mapM_nil]; exact wpAny_pure (h [] .nil)
  | _, _, Q, .cons (a := v) (b := d) (as := vs) (bs := ds) ⟨as, r⟩ t, ht, h => by
    rw [List.mapM_cons]
    obtain ⟨xs, rfl⟩ := ht d (List.mem_cons_self ..)
    have rest : ∀ f, (PyData.tuple xs = PyData.tuple [] → f = none) → wpAny (model prog w) A (do let bs ← vs.mapM firstOfTuple'; pure (f :: bs)) Q E s := fun f hf =>
      wpAny_bind (firsts_ask (Q := fun bs s' => wpAny (model prog w) A (pure (f :: bs)) Q E s') t (fun d hd => ht d (List.mem_cons_of_mem _ hd)) fun fs hfs => wpAny_pure (h (f :: fs) (.cons hf hfs)))
    rw [kas_first_eq]
    refine wpAny_bind (wpAny_bind ((looks_reads r).here ?_))
    have e : ((dataType (PyData.tuple xs)) != Value.type "tuple") = false := by simp [dataType]
    rw [e]
    simp only [Bool.false_eq_true, if_false]
    cases r with
    | @tuple l o ws n _ as₁ h1 h2 h3 h4 =>
      refine wpAny_bind (wpAny_listItems (o := o) h1 h3 (wpAny_pure (rest _ fun e => ?_)))
      cases e
      have n1 : ws.size = 0 := by simpa using ReadsAll.length _ _ _ h4
      rw [Array.getElem?_eq_none (by omega)]
theorem kind_firstE {vs : List Value} {ds : List PyData} {Q : SortKind → Shared → Prop} (e : EachIs (fun v d => ∃ as, Reads s.heap v d as) vs ds) (hf : FirstE ds) (h : Q oneType' s) : wpAny (model prog w) A (keyKind' vs.toArray) Q E s := by
  obtain ⟨⟨r, rfl⟩, ht⟩ := hf
  rw [keyKind'_eq, List.mapM_toArray, map_eq_pure_bind]
  refine wpAny_bind (wpAny_bind (firsts_ask e ht fun fs hfs => wpAny_pure ?_))
  obtain ⟨f, fr, rfl⟩ : ∃ f fr, fs = f :: fr := by cases hfs; exact ⟨_, _, rfl⟩
  obtain rfl : f = none := by cases hfs with | cons a _ => exact a rfl
  have hall : (((none : Option Value) :: fr).toArray.all fun x => x.isSome) = false := by simp
  rw [hall]
  simp only [Bool.false_eq_true, if_false]
  have h0 : (((none : Option Value) :: fr).toArray[0]?.bind id).isSome = false := by simp
  rw [if_neg (by rw [h0]; exact Bool.false_ne_true)]
  have hT : ∀ v ∈ vs, Looks (model prog w) s.heap (typeOf v) (.type "tuple") := fun v hv => by
    obtain ⟨d, hd, as, rd⟩ := e.left v hv
    obtain ⟨xs, rfl⟩ := ht d hd
    exact looks_reads rd
  have hne : ∃ v₁ rest, vs = v₁ :: rest := by cases e; exact ⟨_, _, rfl⟩
  obtain ⟨v₁, rest, rfl⟩ := hne
  rw [oneTypeOnly'_eq, List.mapM_toArray, map_eq_pure_bind]
  refine wpAny_bind (wpAny_bind (wpAny_bind (kas_mapM (r := Value.type "tuple") _ (fun v hv Q' hq => (hT v hv).here hq) (wpAny_pure ?_))))
  have hall : ((List.map (fun _ => Value.type "tuple") (v₁ :: rest)).toArray.all fun x => x == Value.type "tuple") = true := by
    simp only [List.all_toArray, List.all_map, List.all_eq_true]
    intro _ _
    exact beq_self_eq_true _
  have h0 : (List.map (fun _ => Value.type "tuple") (v₁ :: rest)).toArray[0]? = some (Value.type "tuple") := by simp
  rw [h0]
  simp only [hall, if_true]
  exact wpAny_pure (wpAny_pure h)
theorem SortsAt.firstE {vs : List Value} {ds : List PyData} (e : EachIs (fun v d => ∃ as, Reads s.heap v d as) vs ds) (hal : AllAlike ds) (hf : FirstE ds) (hu : ∀ d, d ∈ ds → A.units + d.depth < cLine) : SortsAt prog w A s (dataKind s.heap ds) vs := by
  refine ⟨fun v hv => ?_, oneType', ?_, fun _ E Q hq => kind_firstE e hf hq⟩
  · obtain ⟨d, hd, as, r⟩ := e.left v hv
    exact ⟨_, dataKind_some hal hd r⟩
  · intro E x y a b Q ha hb hq
    obtain ⟨d, as, hd, ra, rfl⟩ := dataKind_inv ha
    obtain ⟨d', as', hd', rb, rfl⟩ := dataKind_inv hb
    obtain ⟨xs, rfl⟩ := hf.2 d hd
    obtain ⟨ys, rfl⟩ := hf.2 d' hd'
    rw [keyLt'_oneType]
    exact oneLt_tups ra rb (by simpa [alike] using hal _ hd _ hd') (Nat.lt_of_le_of_lt (Nat.add_le_add_left (Nat.min_le_left _ _) _) (hu _ hd)) hq
end
section
variable {prog : Program} {w : World} {A : Around} {E : Value → Shared → Prop} {s : Shared} {β : Type} {vs : List Value} {bs : List β} {enc : β → PyData} {R : Value → β → Prop}
theorem sorted_dataE {l : Addr} {Q : Value → Shared → Prop} (hl : s.heap.IsList l vs.toArray) (e : EachIs R vs bs) (er : EachIs (fun v b => ∃ as, Reads s.heap v (enc b) as) vs bs) (hal : AllAlike (bs.map enc)) (hk : Sortable (bs.map enc) ∨ FirstE (bs.map enc)) (hL : bs.length ≤ sizeLine)
    (hu : ∀ b, b ∈ bs → A.units + 2 + (enc b).depth < cLine) (h : ∀ out, out.length = bs.length → EachIs R out (bs.mergeSort (dataLe false enc)) → Q (.ref (s.heap.objs.size + 1)) { s with heap := sortedAll s.heap vs (List.toArray out) }) :
    wpAny (model prog w) A (call (.builtin "sorted") [.ref l]) Q E s := by
  rcases hk with hk | hk
  · exact sorted_data hl e er hal hk hL hu h
  · have er' : EachIs (fun v b => ∃ as, Reads (sortingHeap (copyHeap s.heap vs) (s.heap.objs.size + 1) vs) v (enc b) as) vs bs := er.mono fun _ _ ⟨as, r⟩ => ⟨as, PyProof.Rows.Reads.keeps (fun _ _ => sorting_copy_old) r⟩
    exact sorted_vals hl (SortsAt.firstE (s := { s with heap := sortingHeap (copyHeap s.heap vs) (s.heap.objs.size + 1) vs }) (each_map (R := fun v d => ∃ as, Reads (sortingHeap (copyHeap s.heap vs) (s.heap.objs.size + 1) vs) v d as) enc er') hal hk (bound_map hu)) (by rw [e.length]; exact hL)
      (h _ (by rw [sortVals_length false rfl]; exact e.length) (sortVals_data false e er' hal))
end
end PySem.W
namespace HZ
open PySem PySem.Spec PyProof.Rows L2 HX
def rSortD (K : PySem.W.Frag) : List V → Hp → VK → Prop := fun vs H Q => ∃ (a : Addr) (bs : List (V × PyData)), vs = [.ref a] ∧ SqL K H a (bs.map (·.1)) ∧ (∀ b, b ∈ bs → Dp K H b.1 b.2) ∧ PySem.W.AllAlike (bs.map (·.2)) ∧ (PySem.W.Sortable (bs.map (·.2)) ∨ PySem.W.FirstE (bs.map (·.2))) ∧ (∀ b, b ∈ bs → b.2.depth ≤ 60) ∧
  ∀ p, H p = none → Q (.ref p) (upd H p (.lst ((bs.mergeSort (PySem.W.dataLe false (·.2))).map (·.1))))
theorem each_rel {R : Value → V → Prop} : ∀ {us : List Value} {bs : List (V × PyData)}, Vals (bs.map (·.1)) us → PySem.W.EachIs (fun u b => RelV b.1 u) us bs
  | _, [], r => by cases r; exact .nil
  | _, b :: bs, r => by cases r with | cons a t => exact .cons a (each_rel (R := R) t)
theorem vals_each : ∀ {us : List Value} {bs : List (V × PyData)}, PySem.W.EachIs (fun u b => RelV b.1 u) us bs → Vals (bs.map (·.1)) us
  | _, _, .nil => .nil
  | _, _, .cons a t => .cons a (vals_each t)
theorem each_and {α β : Type} {R S : α → β → Prop} : ∀ {as : List α} {bs : List β}, PySem.W.EachIs R as bs → (∀ a b, R a b → b ∈ bs → S a b) → PySem.W.EachIs S as bs
  | _, _, .nil, _ => .nil
  | _, _, .cons h t, k => .cons (k _ _ h (List.mem_cons_self ..)) (each_and t fun a b r m => k a b r (List.mem_cons_of_mem _ m))
theorem cr_sortD {X : Cx} {K : PySem.W.Frag} (hu : X.A.units + 64 < cLine) (hK : X.K = K := by rfl) : CallR X (.builtin "sorted") (rSortD K) := by
  cases hK
  intro pins s σ H vs us Q I r h
  obtain ⟨a, bs, rfl, hs, hd, hal, hk, hdep, q⟩ := h
  obtain ⟨its, rv, hl, hz⟩ := I.list hs
  rw [Vals.ref1 r]
  have er := each_rel (R := fun _ _ => True) rv
  have hlen : bs.length ≤ sizeLine := by rw [← er.length]; have := rv.length; rw [List.length_map] at this; rw [List.length_map] at hz; rw [← this]; exact hz
  refine PySem.W.sorted_dataE (R := fun u b => RelV b.1 u) (enc := (·.2)) hl.isList er (each_and er fun u b rb mb => Dp.reads I b.2 b.1 u (hd b mb) rb) hal hk hlen (fun b hb => by have := hdep b hb; omega) fun out ho hout => ?_
  obtain ⟨ep, he'⟩ := PyProof.Rows.sortedAll_at s.heap its out.toArray
  have rl := vals_each hout
  refine ⟨.ref _, upd H (s.heap.objs.size + 1) (.lst ((bs.mergeSort (PySem.W.dataLe false (·.2))).map (·.1))), I.laid (t' := s.toks) (fun _ _ => PyProof.Rows.sortedAll_old) (Nat.le_succ _) ⟨?_, out, ep, rl, he'⟩, rfl, q _ (I.hok.fresh (Nat.le_succ _))⟩
  rw [List.length_map, List.length_mergeSort]; exact hlen
end HZ
/-! starred displays, methods of own classes, constructors with defaults, lists of tuples sorted, bit lengths, membership among data -/
namespace HY
open PySem PySem.Spec PyProof.Rows L2 HX HD
/-! ### a promise by position out of a def with defaults -/
section
variable {P : Program} {w : World} {K : PySem.W.Frag} {mg : Str → Option Value} {base : Heap}
theorem fnr_ok {CX : CXT} {k : Nat} {f : Addr} {fd : FuncData} {ps : List Str} {sp : Sp} {ds : List Value} {dvs : List V} (F : FnOk P w K mg base CX k f fd ps sp) (hb : Binds K fd ps ds) (hd : Vals dvs ds) : FnR P w K mg base CX k f (fun vs H Q E => sp (vs ++ dvs) H Q E) := fun A outer s H us vs Q E hr e0 r hs => by
  have KX : K.In s.heap := e0.mod.kin.keeps fun b o e => (e0.bs b o e).1
  have rr : Vals (vs ++ dvs) (us ++ ds) := r.append hd
  have hl := F.len _ _ _ _ hs
  exact F.run A outer s H ⟨us, []⟩ (us ++ ds) (vs ++ dvs) Q E hr e0 (hb s us KX (by rw [← rr.length]; exact hl)) rr hs
theorem fnr_ok0 {CX : CXT} {k : Nat} {f : Addr} {fd : FuncData} {ps : List Str} {sp : Sp} (F : FnOk P w K mg base CX k f fd ps sp) (hb : Binds K fd ps []) : FnR P w K mg base CX k f sp := (fnr_ok (dvs := []) F hb .nil).imp fun vs H Q E h => by rw [List.append_nil]; exact h
end
/-- what an own class that is no paper must have -/
structure PB (K : PySem.W.Frag) (C : Addr) (nm : Str) : Prop where
  cl : Cls K C
  hc : HP.HasCls K C
  nm : HP.ClsNm K C nm
theorem PB.ty {K : PySem.W.Frag} {C : Addr} {nm : Str} (p : PB K C nm) {H : Hp} {a dx : Addr} {fs : List (Str × V)} (e : H a = some (.ins C dx fs)) : TyX K H (.ref a) (.ref C) :=
  .base (.ins e p.cl p.hc.at_ p.hc.sp p.hc.tk p.hc.ob)
section
variable {K : PySem.W.Frag} {c : Wd K} {ρ : List S} {n : Nat} {ds : List I} {L B : List Addr} {σ : L2.St} {H H' : Hp} {vs : List V} {v : V} {p : Addr} {Q : QI} {QA : List I → QS} {g : Addr} {M : Addr → Prop} {it : I}
theorem isiQ_ {it : I} {C E : Addr} {nm : Str} {fs : List (Str × D)} {b : Bool} (e : it.val = .ins C fs) (pc : PB K C nm) (hk : PySem.W.kitOne K (.ref C) (.ref E) = some b) (h : Q (.v (.bl b)) ρ n) : GB c ρ n ds (rIsi K) [it, .v (.glo E)] Q := fun σ H vs xs F hl ⟨L, B, s⟩ k => by
  match xs, hl with
  | [x, y], _ =>
  obtain ⟨L, B, s1⟩ := (St.rot (is := [.v (.glo E)]) (ws := [y]) rfl ⟨L, B, s⟩ : St c ρ n (.v (.glo E) :: it :: ds) σ H (y :: x :: vs))
  obtain ⟨B', lx, ly, s2, mv, hx, hy⟩ := s1.it2
  cases hy.r
  obtain ⟨a, dx, fv, rfl, ha, _⟩ := hx.ins s1.sl e
  exact ⟨.ref a, .ref E, .ref C, .ref E, b, rfl, .own E, pc.ty ha, hk, k _ _ _ _ _ h ⟨L, B', s2.pushR (.bl _)⟩⟩
/-! ### a star in a display -/
theorem St.rotB : ∀ {is js : List I} {ws us : List V} {ds : List I} {vs : List V}, ws.length = is.length → us.length = js.length → St c ρ n (is ++ (js ++ ds)) σ H (ws ++ (us ++ vs)) → St c ρ n (js ++ (is ++ ds)) σ H (us ++ (ws ++ vs))
  | is, [], ws, [], ds, vs, _, _, s => s
  | is, j :: js, ws, u :: us, ds, vs, hl, hm, s => by
    have s1 := St.rot' (is := is) (it := j) (ds := js ++ ds) (ws := ws) (v := u) (vs := us ++ vs) hl s
    have s2 : St c ρ n ((j :: is) ++ (js ++ ds)) σ H ((u :: ws) ++ (us ++ vs)) := s1
    have s3 := St.rotB (is := j :: is) (js := js) (ws := u :: ws) (us := us) (by simp [hl]) (by simpa using hm) s2
    -- js ++ (j :: is ++ ds): j sinks ahead
    exact St.rot' (is := js) (it := j) (ds := is ++ ds) (ws := us) (v := u) (vs := ws ++ vs) (by simpa using hm) s3
theorem star_ {te : TE} {t : TA} (h : GE c ρ n ds te fun it ρ1 n1 => ∃ xs, it.seq = some xs ∧ GA c ρ1 n1 (xs.map I.v ++ ds) t fun its ρ2 n2 => QA (xs.map I.v ++ its) ρ2 n2) : GA c ρ n ds (StX.tStar K te t) QA := fun σ H vs F s k =>
  h σ H vs _ s fun it ρ1 n1 x H1 ⟨xs, e, q⟩ ⟨L, B, s1⟩ => by
    obtain ⟨B', lx, s2, mv, hx⟩ := s1.it1
    obtain ⟨a, ws, rfl, hs, ra⟩ := hx.seq s1.sl e
    refine ⟨a, ws, rfl, hs.symm, ?_⟩
    have s3 := St.elems s2 (ra.mv mv)
    refine q σ H1 (ws ++ vs) _ ⟨L, B', s3⟩ fun its ρ2 n2 ys H2 q2 hl s4 => ?_
    have hw : ws.length = (xs.map I.v).length := by rw [ra.len, List.length_map]
    have s5 := St.rotB (is := its) (js := xs.map I.v) hl hw s4
    refine k _ ρ2 n2 _ H2 q2 (by rw [List.length_append, List.length_append, hl, hw]) ?_
    rw [List.append_assoc, List.append_assoc]
    exact s5
/-! ### a method of an own instance -/
theorem RF.none : ∀ {fv : List (Str × V)} {fs : List (Str × D)} {m : Str}, RF K g M H fv fs → fs.lookup m = none → fv.lookup m = none
  | _, _, _, .nil, _ => rfl
  | _, _, m, .cons (f := x) a b, e => by
    rw [List.lookup_cons] at e ⊢
    cases z : m == x with
    | true => rw [z] at e; cases e
    | false => rw [z] at e; exact RF.none b e
theorem meth_ {C : Addr} {m : Str} {sp : SpD} {ta : TE} {t : TA} (h : GE c ρ n ds ta fun it ρ1 n1 => ∃ fs, it.val = .ins C fs ∧ fs.lookup m = none ∧ GA c ρ1 n1 (it :: ds) t fun its ρ2 n2 => sp (.ins C fs :: its.map I.val) n2 (fun i n3 => Q i (frz (it :: its) ρ2) n3) fun _ _ _ => False) :
    GE c ρ n ds (tMethR C m (lift K sp) E0 ta t) Q := fun σ H vs F s k =>
  h σ H vs _ s fun it ρ1 n1 x H1 ⟨fs, e, hm, q⟩ s1 => by
    have s1' := s1
    obtain ⟨L, B, s1⟩ := s1
    obtain ⟨B', lx, s2, mv, hx⟩ := s1.it1
    obtain ⟨a, dx, fv, rfl, ha, rf⟩ := hx.ins s1.sl e
    refine ⟨a, dx, fv, rfl, ha, RF.none rf hm, ?_⟩
    refine q σ H1 (.ref a :: vs) _ s1' fun its ρ2 n2 ys H2 q2 hl s3 => ?_
    have s4 := St.rot' (is := its) (ws := ys) hl s3
    obtain ⟨L, B, s5, ra⟩ := items (is := it :: its) (ws := V.ref a :: ys) (by simp [hl]) s4
    refine ⟨⟨c.g, c.k, c.ns, Mo c (L ++ B), H2⟩, n2, _, _, _, ⟨rfl, s5.hat, .inl s5.mg, .inl s5.ml, s5.at, ra, fun it m v H2 q2 k2 h2 r2 => ?_, fun C fs n' x H' (z : False) => z.elim⟩, by rw [List.map_cons, e]; exact q2⟩
    cases it with
    | v d => exact k _ _ _ _ _ q2 ⟨L, B, (s5.kept k2 h2).pushR r2⟩
    | b _ _ => exact r2.elim
    | o ys =>
      obtain ⟨p, rfl, hp, np, rr⟩ := r2
      exact k _ _ _ _ _ q2 ⟨L, _, s5.ownNew k2 h2 hp rr⟩
/-! ### bit lengths -/
theorem bits_ {to : TE} (h : GE c ρ n ds to fun it ρ1 n1 => ∃ i : Int, it = .v (.int i) ∧ Q (.v (.int (Builtin.Int.intBits i : Nat))) ρ1 n1) : GE c ρ n ds (tBits to) Q := fun σ H vs F s k =>
  h σ H vs _ s fun it ρ1 n1 x H1 ⟨i, e, q⟩ s1 => by
    subst e
    obtain rfl := R.eInt s1.one
    exact ⟨i, rfl, k _ _ _ _ _ q (s1.pop.pushS rfl)⟩
/-! ### xs.pop(i) -/
theorem popAt_ {i : Nat} {d0 d : D} {xs : List D} {j : Int} {m : Nat} (hc : clean ds = true) (hi : ρ[i]? = some (.ow (.lst xs))) (hj : -(2 ^ 63) ≤ j ∧ j < 2 ^ 63) (hm : seqIndex? j xs.length = some m) (hd : xs[m]? = some d) (h : Q (.v d) (ρ.set i (.ow (.lst (xs.eraseIdx m)))) n) : GM c ρ n ds rPopAt (.b i d0) [.v (.int j)] Q := fun σ H vs x ys F hy ⟨L, B, s⟩ k => by
  match ys, hy with
  | [y], _ =>
  have hs := slotOf s
  obtain ⟨B', lx, ly, s2, mv, hx, hj2⟩ := StX.it2 (ix := .b i d0) (iy := .v (.int j)) s
  cases hj2.r
  obtain ⟨a, e1, ⟨ws, ha, ra⟩, w⟩ := s2.wrS hc hi
  rw [hs] at e1; cases e1
  obtain ⟨z, hz, rz⟩ := ra.at hd
  have rE : ∀ {M : Addr → Prop} {H : Hp} {ws : List V} {xs : List D} (m : Nat), RA K c.g M H ws xs → RA K c.g M H (ws.eraseIdx m) (xs.eraseIdx m) := fun {M H ws xs} m r => by
    rw [List.eraseIdx_eq_take_drop_succ, List.eraseIdx_eq_take_drop_succ]
    exact (r.take m).append (r.drop (m + 1))
  have s3 : StX c L B' (ρ.set i (.ow (.lst (xs.eraseIdx m)))) n ds σ (upd H a (.lst (ws.eraseIdx m))) vs := w fun mm => ⟨_, upd_same, (rE m ra).mv mm⟩
  have mo : Mv (Mo c (L ++ B')) (Mo c (L ++ B')) H (upd H a (.lst (ws.eraseIdx m))) := mv_own (by
    obtain ⟨L1, l, L2, x, f1, f2, f3, _⟩ := s2.sl.at hi
    rw [hs] at f2; cases f2
    cases f3
    rw [f1]; simp)
  exact ⟨a, ws, j, m, z, rfl, rfl, ha, hj.1, hj.2, by rw [ra.len]; exact hm, hz, k _ _ _ _ _ h ⟨L, B', s3.pushR (rz.mv mo)⟩⟩
/-! ### membership among data, in a list -/
theorem inD_ {ix iy : I} {xs : List D} (e : iy.val = .lst xs) (hx : ix.val.dat = true) (hy : D.dats xs = true) (sx : SeqAt.shaped ix.val.py = true) (sy : SeqAt.shaped (D.lst xs).py = true) (h : Q (.v (.bl ((D.pys xs).any fun z => PyData.eqv z ix.val.py))) ρ n) : GO c ρ n ds (rInD K) ix iy Q := fun σ H vs x y F ⟨L, B, s⟩ k => by
  obtain ⟨B', lx, ly, s2, mv, hx', hy'⟩ := s.it2
  have d1 := hx'.dpv s.sl hx
  have d2 := hy'.dpv s.sl (by rw [e, D.dat]; exact hy)
  rw [e, D.py] at d2
  rw [D.py] at sy
  exact ⟨_, _, d1, d2, sx, sy, k _ _ _ _ _ h ⟨L, B', s2.pushR (.bl _)⟩⟩
theorem niD_ {ix iy : I} {xs : List D} (e : iy.val = .lst xs) (hx : ix.val.dat = true) (hy : D.dats xs = true) (sx : SeqAt.shaped ix.val.py = true) (sy : SeqAt.shaped (D.lst xs).py = true) (h : Q (.v (.bl (!(D.pys xs).any fun z => PyData.eqv z ix.val.py))) ρ n) : GO c ρ n ds (rNotInD K) ix iy Q := fun σ H vs x y F ⟨L, B, s⟩ k => by
  obtain ⟨B', lx, ly, s2, mv, hx', hy'⟩ := s.it2
  have d1 := hx'.dpv s.sl hx
  have d2 := hy'.dpv s.sl (by rw [e, D.dat]; exact hy)
  rw [e, D.py] at d2
  rw [D.py] at sy
  exact ⟨_, _, d1, d2, sx, sy, k _ _ _ _ _ h ⟨L, B', s2.pushR (.bl _)⟩⟩
/-! ### sorted of data -/
def sortD (ds : List D) : List D := ds.mergeSort (PySem.W.dataLe false D.py)
theorem RA.mem : ∀ {ws : List V} {xs : List D}, RA K g M H ws xs → ∀ z ∈ ws.zip xs, R K g M H z.1 z.2
  | _, _, .nil, _, h => by cases h
  | _, _, .cons a b, z, h => by
    rcases List.mem_cons.mp h with rfl | h
    · exact a
    · exact RA.mem b z h
theorem RA.ofMem : ∀ {zs : List (V × D)}, (∀ z ∈ zs, R K g M H z.1 z.2) → RA K g M H (zs.map (·.1)) (zs.map (·.2))
  | [], _ => .nil
  | z :: zs, h => .cons (h z (List.mem_cons_self ..)) (RA.ofMem fun y hy => h y (List.mem_cons_of_mem _ hy))
theorem pys_map : ∀ xs : List D, D.pys xs = xs.map D.py
  | [] => rfl
  | x :: xs => by rw [D.pys, pys_map xs]; rfl
theorem dats_mem : ∀ {xs : List D}, D.dats xs = true → ∀ x ∈ xs, x.dat = true
  | [], _, _, h => by cases h
  | y :: ys, e, x, h => by
    rw [D.dats, Bool.and_eq_true] at e
    rcases List.mem_cons.mp h with rfl | h
    · exact e.1
    · exact dats_mem e.2 x h
theorem sortD_ {xs : List D} (e : it.val = .lst xs) (hd : D.dats xs = true) (hal : PySem.W.AllAlike (D.pys xs)) (hk : PySem.W.Sortable (D.pys xs) ∨ PySem.W.FirstE (D.pys xs)) (hdep : ∀ d ∈ D.pys xs, d.depth ≤ 60) (h : Q (.o (.lst (sortD xs))) ρ n) : GB c ρ n ds (HZ.rSortD K) [it] Q := gb1 fun σ H vs x F L B s k => by
  obtain ⟨B', lx, s2, mv, hx⟩ := s.it1
  obtain ⟨a, ws, rfl, ha, r⟩ := hx.ls s.sl e
  have hm := RA.mem (r.mv mv)
  have hl : (ws.zip xs).map (·.1) = ws := List.map_fst_zip (by rw [r.len]; exact Nat.le_refl _)
  have hl2 : (ws.zip xs).map (·.2) = xs := List.map_snd_zip (by rw [r.len]; exact Nat.le_refl _)
  let bs : List (V × PyData) := (ws.zip xs).map fun z => (z.1, z.2.py)
  have b1 : bs.map (·.1) = ws := by show ((ws.zip xs).map fun z => (z.1, z.2.py)).map (·.1) = ws; rw [List.map_map]; exact hl
  have b2 : bs.map (·.2) = D.pys xs := by
    show ((ws.zip xs).map fun z => (z.1, z.2.py)).map (·.2) = _
    rw [List.map_map, pys_map]
    have : ((fun x : V × PyData => x.2) ∘ fun z : V × D => (z.1, z.2.py)) = D.py ∘ fun z : V × D => z.2 := rfl
    rw [this, ← List.map_map, hl2]
  refine ⟨a, bs, rfl, by rw [b1]; exact SqL.of ha, fun b hb => ?_, by rw [b2]; exact hal, by rw [b2]; exact hk, fun b hb => hdep _ (by rw [← b2]; exact List.mem_map.mpr ⟨b, hb, rfl⟩), fun p hp => k _ _ _ _ _ h ⟨L, _, s2.pushO hp ?_⟩⟩
  · obtain ⟨z, hz, rfl⟩ := List.mem_map.mp hb
    exact (hm z hz).dp (dats_mem hd _ (List.of_mem_zip hz).2)
  · have e1 : ((ws.zip xs).mergeSort (fun p q => PySem.W.dataLe false D.py p.2 q.2)).map (fun z => (z.1, z.2.py)) = bs.mergeSort (PySem.W.dataLe false (·.2)) := PySem.W.sort_maps _ fun _ _ _ _ => rfl
    have e2 : ((ws.zip xs).mergeSort (fun p q => PySem.W.dataLe false D.py p.2 q.2)).map (·.2) = sortD xs := by
      rw [PySem.W.sort_maps (s := PySem.W.dataLe false D.py) (fun z : V × D => z.2) fun _ _ _ _ => rfl, hl2]; rfl
    rw [← e1, ← e2, List.map_map]
    exact RA.ofMem fun z hz => hm z ((List.mergeSort_perm _ _).mem_iff.mp hz)
theorem sortD_perm (xs : List D) : (sortD xs).Perm xs := List.mergeSort_perm _ _
end
/-! ### self.f as a target within a tuple of targets -/
def gFld (K : PySem.W.Frag) (ta : TE) (f : Str) : TG := fun v σ H Q => ta σ H fun x H2 => ∃ a C dx fs, x = .ref a ∧ H2 a = some (.ins C dx fs) ∧ Cls K C ∧ NoAttr K C f ∧ fs.length < 1000 ∧ Q σ (upd H2 a (.ins C dx (putF f v fs)))
theorem pg_fldK {X : Cx} {K : PySem.W.Frag} {o : Expr} {f : Str} {pos : Pos} {ta : TE} (ha : PE X o ta) (hK : X.K = K := by rfl) : PG X (.Attribute o f pos) (gFld K ta f) := by
  cases hK
  refine ⟨fun pins s σ H v u Q I r h => ?_⟩
  rw [assign_Attribute]
  refine wpAny_bind (wpAny_holding (thn (ha.run pins s σ H _ I h) fun ov s2 ⟨x, H2, I2, rx, a, C, dx, fs, ex, ea, c, n, l, q2⟩ => ?_))
  subst ex
  obtain rfl : ov = Value.ref a := rx
  refine wpAny_bind (wpAny_standAt (wpAny_bind (wpAny_holding (setattr_ok I2 ea c n l r fun s3 I3 => ?_))))
  exact wpAny_release ⟨σ, _, I3, q2⟩
section
variable {K : PySem.W.Frag} {c : Wd K} {ρ : List S} {n : Nat} {ds : List I}
theorem gfld_ {ta : TE} {f : Str} {it : I} {QG : QS} (h : GE c ρ n (it :: ds) ta fun io ρ2 n2 => SM K ds f it io ρ2 n2 QG) : GG c ρ n ds (gFld K ta f) it QG := fun σ H vs v F s k =>
  h σ H (v :: vs) _ s fun io ρ2 n2 x H2 ⟨i, d0, x0, C, fs, e, hc, hi, hC, hn, hl, q⟩ s2 => by
    subst e
    have s3 := St.frz1 (St.rot' (is := [.b i d0]) (ws := [x]) rfl s2)
    obtain ⟨L, B, s3⟩ := s3
    have hv := s3.val
    have hs : σ[i]? = some (some x) := slotOf s3
    obtain ⟨B', lx, ly, s4, mv, _, _⟩ := s3.it2
    obtain ⟨e1, ⟨dx, fv, ha, rf⟩, w⟩ := s4.wrM hc hi
    rw [hs] at e1; cases e1
    have := Nat.le_of_ble_eq_true hl
    have hlen := rf.len
    exact ⟨x0, C, dx, fv, rfl, ha, hC, hn, by omega, k _ _ _ _ q ⟨L, B', w fun m => ⟨dx, _, upd_same, (rf.put (hv.mv mv)).mv m⟩⟩⟩
end
theorem exseq_ {it : I} {xs : List D} {P : List D → Prop} (e : it.seq = some xs) (h : P xs) : ∃ xs', it.seq = some xs' ∧ P xs' := ⟨xs, e, h⟩
theorem exmeth_ {it : I} {C : Addr} {fs : List (Str × D)} {m : Str} {P : List (Str × D) → Prop} (e : it.val = .ins C fs) (hm : fs.lookup m = none) (h : P fs) : ∃ fs', it.val = .ins C fs' ∧ fs'.lookup m = none ∧ P fs' := ⟨fs, e, hm, h⟩
theorem exbits_ {i : Int} {P : Int → Prop} (h : P i) : ∃ j, I.v (.int i) = .v (.int j) ∧ P j := ⟨i, rfl, h⟩
/-! ### fixed values with instances in them -/
/-- of an own class that is no list and no tuple -/
def NoSq (K : PySem.W.Frag) (C : Addr) : Prop := (∃ nm, PB K C nm) ∧ PySem.W.kitOne K (.ref C) (.type "list") = some false ∧ PySem.W.kitOne K (.ref C) (.type "tuple") = some false
def okK (K : PySem.W.Frag) : Nat → D → Prop
  | 0, .lst _ => False
  | 0, .tup _ => False
  | m + 1, .lst xs => xs.length ≤ 100000 ∧ ∀ x, x ∈ xs → okK K m x
  | m + 1, .tup xs => xs.length ≤ 100000 ∧ ∀ x, x ∈ xs → okK K m x
  | _, .ins C _ => NoSq K C
  | _, d => d.tn.isSome = true
theorem okK_of {K : PySem.W.Frag} : ∀ {m : Nat} {d : D}, okF m d = true → okK K m d
  | 0, .lst _, h => by simp [okF] at h
  | 0, .tup _, h => by simp [okF] at h
  | m + 1, .lst xs, h => by
    rw [okF, Bool.and_eq_true, List.all_eq_true] at h
    exact ⟨Nat.le_of_ble_eq_true h.1, fun x hx => okK_of (h.2 x hx)⟩
  | m + 1, .tup xs, h => by
    rw [okF, Bool.and_eq_true, List.all_eq_true] at h
    exact ⟨Nat.le_of_ble_eq_true h.1, fun x hx => okK_of (h.2 x hx)⟩
  | 0, .ins C _, h => by simp [okF, D.tn] at h
  | m + 1, .ins C _, h => by simp [okF, D.tn] at h
  | 0, .non, h => h
  | 0, .bl _, h => h
  | 0, .int _, h => h
  | 0, .str _, h => h
  | 0, .ty _, h => h
  | 0, .glo _, h => h
  | 0, .hat, h => h
  | m + 1, .non, h => h
  | m + 1, .bl _, h => h
  | m + 1, .int _, h => h
  | m + 1, .str _, h => h
  | m + 1, .ty _, h => h
  | m + 1, .glo _, h => h
  | m + 1, .hat, h => h
def spd_fixedK (K : PySem.W.Frag) (m : Nat) (ds : List D) (n : Nat) (Q : I → Nat → Prop) (_ : XD) : Prop := ∃ d, ds = [d] ∧ okK K m d ∧ Q (.v d.fix) n
def spd_fixedKB (K : PySem.W.Frag) : Nat → SpD
  | 0 => fun _ _ _ _ => False
  | m + 1 => spd_fixedK K m
theorem liftK_false {K : PySem.W.Frag} : lift K (spd_fixedKB K 0) = fun _ _ _ _ => False := by
  funext vs H Q E
  exact propext ⟨fun ⟨_, _, _, _, _, _, h⟩ => h, False.elim⟩
def spi_PaperKB (K : PySem.W.Frag) (m : Nat) (ds : List D) (n : Nat) (Q : List (Str × D) → Nat → Prop) (_ : XD) : Prop := ∃ w xs, ds = [.str w, .tup xs] ∧ okK K m (.tup xs) ∧ Q [("word", .str w), ("parts", .tup (D.fixs xs))] n
def spi_PaperK (K : PySem.W.Frag) (m : Nat) (ds : List D) (n : Nat) (Q : List (Str × D) → Nat → Prop) (_ : XD) : Prop := ∃ w xs, ds = .str w :: xs ∧ okK K m (.tup xs) ∧ Q [("word", .str w), ("parts", .tup (D.fixs xs))] n
theorem starIK {K : PySem.W.Frag} {C : Addr} {m : Nat} : ∀ vs H Q E, liftI K C (spi_PaperK K m) vs H Q E → HC.starS ["self", "word"] (liftI K C (spi_PaperKB K m)) vs H Q E := by
  rintro vs H Q E ⟨c, n, x, dx, ws, ds, Qd, Ed, rfl, k, w, xs, rfl, ok, q⟩
  have ra := k.ra
  cases ra with
  | @cons v rest _ _ a b =>
  cases a
  refine ⟨[.ref x, .str w], rest, rfl, rfl, ?_, fun p hp => ?_⟩
  · rw [b.len]
    cases m with
    | zero => exact ok.elim
    | succ m => exact Nat.le_trans ok.1 (by decide)
  have sm : Same H (upd H p (.tup rest)) := HX.same_new hp
  have npx : p ≠ x := fun e => by rw [e, k.hx] at hp; cases hp
  have npm : ¬ c.M0 p := fun z => by obtain ⟨o, ho⟩ := k.md p z; rw [hp] at ho; cases ho
  refine ⟨⟨c.g, c.k, c.ns, c.M0, del (upd H p (.tup rest)) x⟩, n, x, dx, [.str w, .ref p], _, Qd, Ed, rfl, ⟨rfl, sm _ _ k.hx, k.nx, k.hat.same sm, k.mg, k.ml, fun a ha => ?_, .cons (.str w) (.cons (.tup (.inl ⟨fun z => z.elim npm npx, upd_same⟩) (b.mv (mv_same sm))) .nil), fun fs m H' q2 k2 h2 r2 => k.q fs m H' q2 (fun b o nb hb => k2 b o nb ?_) h2 r2⟩, w, xs, rfl, ok, q⟩
  · obtain ⟨o, ho⟩ := k.md a ha
    exact ⟨o, sm a o ho⟩
  · rw [k.h0] at hb
    unfold del at hb
    show (if b = x then none else (upd H p (.tup rest)) b) = some o
    split at hb
    · cases hb
    · rename_i nb2
      rw [if_neg nb2]
      exact sm b o hb
section
variable {K : PySem.W.Frag} {c : Wd K} {ρ : List S} {n : Nat} {ds : List I} {Q : QI}
theorem isiTN_ {it : I} {C : Addr} {fs : List (Str × D)} (e : it.val = .ins C fs) (ns : NoSq K C) (h : Q (.v (.bl false)) ρ n) : GB c ρ n ds (rIsiTU K) [it, .v (.tup [.ty "list", .ty "tuple"])] Q := fun σ H vs xs F hl ⟨L, B, s⟩ k => by
  match xs, hl with
  | [x, y], _ =>
  obtain ⟨L, B, s1⟩ := (St.rot (is := [.v (.tup [.ty "list", .ty "tuple"])]) (ws := [y]) rfl ⟨L, B, s⟩ : St c ρ n (.v (.tup [.ty "list", .ty "tuple"]) :: it :: ds) σ H (y :: x :: vs))
  obtain ⟨B', lx, ly, s2, mv, hx, hy⟩ := s1.it2
  obtain ⟨a, dx, fv, rfl, ha, _⟩ := hx.ins s1.sl e
  obtain ⟨⟨nm, pb⟩, k1, k2⟩ := ns
  exact isiU (pb.ty ha) hy.r rfl (HC.kitAny_two k1 k2) (k _ _ _ _ _ h ⟨L, B', s2.pushR (.bl _)⟩)
end
/-! ### terms -/
section
variable {X : Cx} {K : PySem.W.Frag}
theorem pa_starK {e : Expr} {es : List Expr} {p : Pos} {te : TE} {t : TA} (he : PE X e te) (hr : PA X es t) (hs : starEach (.Starred e p :: es) X.env = (true, eval e X.env) :: starEach es X.env := by rfl) (hK : X.K = K := by rfl) : PA X (.Starred e p :: es) (StX.tStar K te t) := by cases hK; exact StX.pa_star he hr hs
theorem op_inDK (hu : X.A.units + 65 < cLine) (hK : X.K = K := by rfl) : OpR X (compareOp .In) (rInD K) := by cases hK; exact op_inD hu
theorem op_niDK (hu : X.A.units + 65 < cLine) (hK : X.K = K := by rfl) : OpR X (compareOp .NotIn) (rNotInD K) := by cases hK; exact op_notInD hu
theorem units65 {A : Around} {k : Nat} (hr : Room k A) : A.units + 65 < cLine := by have := hr.un; omega
end
/-! ### integers by bits -/
theorem xor_nat (a b : Nat) : Builtin.bitXor (a : Int) (b : Int) = ((a ^^^ b : Nat) : Int) := by
  have key : ∀ n a b : Nat, a ≤ n → (a ^^^ b) + 2 * (a &&& b) = a + b := by
    intro n
    induction n with
    | zero => intro a b h; have : a = 0 := by omega
              subst this; simp
    | succ n ih =>
      intro a b h
      by_cases h0 : a = 0
      · subst h0; simp
      have h1 := ih (a / 2) (b / 2) (by omega)
      have d1 : (a ^^^ b) / 2 = (a / 2) ^^^ (b / 2) := Nat.xor_div_two
      have d2 : (a &&& b) / 2 = (a / 2) &&& (b / 2) := Nat.and_div_two
      have e3 : (a ^^^ b) % 2 = (a % 2 + b % 2) % 2 := by
        have t := Nat.testBit_xor a b 0
        simp only [Nat.testBit_zero] at t
        rcases Nat.mod_two_eq_zero_or_one a with x | x <;> rcases Nat.mod_two_eq_zero_or_one b with y | y <;> rcases Nat.mod_two_eq_zero_or_one (a ^^^ b) with z | z <;> rw [x, y, z] at t <;> rw [x, y, z] <;> revert t <;> decide
      have e4 : (a &&& b) % 2 = a % 2 * (b % 2) := by
        have t := Nat.testBit_and a b 0
        simp only [Nat.testBit_zero] at t
        rcases Nat.mod_two_eq_zero_or_one a with x | x <;> rcases Nat.mod_two_eq_zero_or_one b with y | y <;> rcases Nat.mod_two_eq_zero_or_one (a &&& b) with z | z <;> rw [x, y, z] at t <;> rw [x, y, z] <;> revert t <;> decide
      rcases Nat.mod_two_eq_zero_or_one a with x | x <;> rcases Nat.mod_two_eq_zero_or_one b with y | y <;> rw [x, y] at e3 e4 <;> omega
  have h := key a a b (Nat.le_refl _)
  rw [PyProof.Rows.bitXor_and, PySem.W.os_band]
  omega
theorem or_nat (a b : Nat) : Builtin.bitOr (a : Int) (b : Int) = ((a ||| b : Nat) : Int) := by
  have key : ∀ n a b : Nat, a ≤ n → (a ||| b) + (a &&& b) = a + b := by
    intro n
    induction n with
    | zero => intro a b h; have : a = 0 := by omega
              subst this; simp
    | succ n ih =>
      intro a b h
      by_cases h0 : a = 0
      · subst h0; simp
      have h1 := ih (a / 2) (b / 2) (by omega)
      have d1 : (a ||| b) / 2 = (a / 2) ||| (b / 2) := Nat.or_div_two
      have d2 : (a &&& b) / 2 = (a / 2) &&& (b / 2) := Nat.and_div_two
      have e3 : (a ||| b) % 2 = a % 2 + b % 2 - a % 2 * (b % 2) := by
        have t := Nat.testBit_or a b 0
        simp only [Nat.testBit_zero] at t
        rcases Nat.mod_two_eq_zero_or_one a with x | x <;> rcases Nat.mod_two_eq_zero_or_one b with y | y <;> rcases Nat.mod_two_eq_zero_or_one (a ||| b) with z | z <;> rw [x, y, z] at t <;> rw [x, y, z] <;> revert t <;> decide
      have e4 : (a &&& b) % 2 = a % 2 * (b % 2) := by
        have t := Nat.testBit_and a b 0
        simp only [Nat.testBit_zero] at t
        rcases Nat.mod_two_eq_zero_or_one a with x | x <;> rcases Nat.mod_two_eq_zero_or_one b with y | y <;> rcases Nat.mod_two_eq_zero_or_one (a &&& b) with z | z <;> rw [x, y, z] at t <;> rw [x, y, z] <;> revert t <;> decide
      rcases Nat.mod_two_eq_zero_or_one a with x | x <;> rcases Nat.mod_two_eq_zero_or_one b with y | y <;> rw [x, y] at e3 e4 <;> omega
  have h := key a a b (Nat.le_refl _)
  rw [PyProof.Rows.bitOr_and, PySem.W.os_band]
  omega
end HY
/-! set of a tuple of integers -/
namespace HQT
open PySem PySem.Spec PyProof.Rows L2 HX HQ
section
variable {P : Program} {w : World} {A : Around} {E : Value → Shared → Prop} {s : Shared}
theorem setOfIntsT {l : Addr} {zs : Array Value} (ms : List Int) {Q : Value → Shared → Prop} (calm : A.handled = none) (isl : s.heap.IsTuple l zs) (hin : IntsAre zs.toList ms) (few : ms.length + 1 < scanBound)
    (k : ∀ (h' : Heap) (tk m : Nat), SetR w h' s.heap.objs.size (fun j => decide (j ∈ ms)) m → m ≤ ms.length → (∀ b o, s.heap.get? b = some o → h'.get? b = some o) → Q (.ref s.heap.objs.size) { s with heap := h', toks := tk }) :
    wpAny (model P w) A (call (.type "set") [.ref l]) Q E s := by
  have size : zs.size = ms.length := by rw [← Array.length_toList]; exact IntsAre.length hin
  obtain ⟨_, _, hmro⟩ := F.called_set.mro
  have m1 := F.called_set.made
  have m2 := F.called_set.sub
  refine wpAny_call (codeAny_of_tree ?_)
  show wpAny _ _ (callAny (.type "set") _) _ _ _
  refine wpAny_pure ⟨Code.quiet_builtin _ (by decide +kernel), codeAny_builtin F.entry_type_call ?_⟩
  rw [Around.under_plain (weight_type_call_type "set" [.ref l] []) rfl]
  have m3 := F.called_set.notType
  have m4 := F.called_set.canCreate
  have m5 := F.typeCall_set_1 (.ref l)
  repeat (any_goals (first | assumption | wp_step))
  refine codeAny_mono (code_set_led1 (.ref l) (E := E) (Q₁ := fun o t => o = .ref s.heap.objs.size ∧ t = { s with heap := s.heap.push (emptySet w) }) ⟨rfl, rfl⟩) fun r t hr => ?_
  match r, hr with
  | .error e, hr => exact hr
  | .ok (.ret o), hr =>
    obtain ⟨rfl, rfl⟩ := hr
    generalize eS : s.heap.push (emptySet w) = G
    have atS : G.get? s.heap.objs.size = some (emptySet w) := by rw [← eS]; exact Heap.get?_push_size _ rfl
    have old : ∀ b o, s.heap.get? b = some o → G.get? b = some o := fun b o e => by rw [← eS]; exact Heap.get?_push_of_some _ e
    have szG : G.objs.size = s.heap.objs.size + 1 := by rw [← eS]; exact Heap.size_push ..
    have ty : Shared.TypeIs { s with heap := G } (.ref s.heap.objs.size) "set" := ⟨_, atS, rfl⟩
    have n1 := F.called_set.init.lookup
    have n2 := F.called_set.init.bind (.ref s.heap.objs.size)
    repeat (any_goals (first | assumption | wp_step))
    refine codeAny_mono (codeAny_call_builtin (R := wants (fun r t => r = .none ∧ ∃ h' tk m, t = { s with heap := h', toks := tk } ∧ SetR w h' s.heap.objs.size (fun j => decide (j ∈ ms)) m ∧ m ≤ ms.length ∧ (∀ b o, s.heap.get? b = some o → h'.get? b = some o)) E) F.called_set.init.plain F.entry_set_init (check_set_init_1 ty ?_)) fun r2 t2 hr2 => ?_
    · obtain ⟨⟨oc, od, ot, os⟩, e1, e2, nl, e3⟩ := isl
      simp only at e2 e3
      subst e2; subst e3
      have atL := old _ _ e1
      have u1 := F.sub_tuple_set
      have u2 := F.sub_tuple_frozenset
      have u3 : (Value.type "tuple" == Value.type "dict") = false := by decide
      have isG : G.IsTuple l zs := ⟨_, atL, rfl, nl, rfl⟩
      unfold Builtin.«set.__init__» noKeywords Builtin.Frozenset.updateFrom
      generalize hp : pyIter = p
      wp_walk
      subst hp
      refine wpAny_pyIter_tuple isG (wpAny_bind (wpAny_runValue ?_))
      have lt : l < s.heap.objs.size := Heap.lt_size e1
      have calm3 : A.in1.in1.in1.handled = none := by simp [calm]
      have ne : l ≠ G.objs.size := by rw [szG]; exact Nat.ne_of_lt (Nat.lt_succ_of_lt lt)
      have nin : s.heap.objs.size ∉ [G.objs.size, l] := by
        rw [szG]
        simp only [List.mem_cons, List.not_mem_nil, or_false, not_or]
        exact ⟨Nat.ne_of_lt (Nat.lt_succ_self _), Nat.ne_of_gt lt⟩
      refine set_update_ints ((Walks.tuple calm3 _ l ne zs).toS) s.heap.objs.size nin ms size few (fun i v hv => ?_) (zs.size - 0) 0 _ (by omega) (Nat.zero_le _) ⟨⟨_, Heap.get?_push_size _ rfl, rfl, rfl⟩, isG.push _⟩ ⟨0, Nat.le_refl 0, setR_new_at (Heap.get?_push_of_some _ atS)⟩ (fun t m hm hc hS => ?_)
      · have hi : i < ms.length := by rw [← size]; exact (Array.getElem?_eq_some_iff.mp hv).1
        obtain ⟨tk, e⟩ := PyProof.Rows.IntsAre.int_at hin i v (by rw [Array.getElem?_toList]; exact hv)
        refine ⟨ms[i], tk, List.getElem?_eq_getElem hi, ?_⟩
        rw [e, List.getD_eq_getElem?_getD, List.getElem?_eq_getElem hi] <;> rfl
      · obtain ⟨h', g2, d2, tk, os2⟩ := t
        obtain rfl : g2 = s.gens := hm.gens
        obtain rfl : d2 = s.drawn := hm.drawn
        obtain rfl : os2 = s.os := hm.os
        show wpAny _ _ _ _ _ _
        refine wpAny_pure ?_
        show wpAny _ _ (ret Value.none) _ _ _
        rw [size] at hc
        refine wpAny_pure ⟨rfl, h', tk, m, rfl, hS, hc, fun b o e => hm.heap b o ?_ (Heap.get?_push_of_some _ (old b o e))⟩
        have hb : b < s.heap.objs.size := Heap.lt_size e
        rw [szG]
        simp only [List.mem_cons, List.not_mem_nil, or_false, not_or]
        exact ⟨Nat.ne_of_lt hb, Nat.ne_of_lt (Nat.lt_succ_of_lt hb)⟩
    · match r2, hr2 with
      | .error e, hr2 => exact hr2
      | .ok (.ret r), hr2 =>
        obtain ⟨rfl, h', tk, m, rfl, a1, a2, a3⟩ := hr2
        repeat (any_goals (first | assumption | wp_step))
        exact k _ _ _ a1 a2 a3
      | .ok .next, hr2 => exact hr2.elim
      | .ok .brk, hr2 => exact hr2.elim
      | .ok .cont, hr2 => exact hr2.elim
  | .ok .next, hr => exact hr.elim
  | .ok .brk, hr => exact hr.elim
  | .ok .cont, hr => exact hr.elim
end
section
variable {X : Cx} {K : PySem.W.Frag}
/-- set of a list or a tuple of integers -/
def rSetA (K : PySem.W.Frag) (w : World) : List V → Hp → VK → Prop := fun xs H Q => ∃ (l : Addr) (ns : List Int), xs = [.ref l] ∧ (SqL K H l (ns.map V.int) ∨ SqT K H l (ns.map V.int)) ∧ ns.length < 1000 ∧ ∀ p m, H p = none → m ≤ ns.length → Q (.ref p) (upd H p (SetO w p (fun j => decide (j ∈ ns)) m))
theorem call_setA (hc : X.calm = true) (hK : X.K = K := by rfl) : CallR X (.type "set") (rSetA K X.w) := by
  cases hK
  intro pins s σ H xs us Q I r h
  obtain ⟨l, ns, rfl, hq, hl, q⟩ := h
  obtain rfl := Vals.ref1 r
  rcases hq with hq | hq
  · obtain ⟨its, rv, pl, hz⟩ := I.list hq
    refine HQ.setOfInts (I.ok.hd hc) pl.isList (ms := ns) (by simpa using rv.ints) (by unfold scanBound; omega) fun h' tk m hS hm hk => ?_
    exact ⟨.ref _, _, I.laid (t' := tk) hk (Nat.le_refl _) (setO_new hS), rfl, q _ m (I.hok.fresh (Nat.le_refl _)) hm⟩
  · obtain ⟨its, rv, pl, hz⟩ := I.tuple hq
    refine setOfIntsT (I.ok.hd hc) (show s.heap.IsTuple l its.toArray from pl) (ms := ns) (by simpa using rv.ints) (by unfold scanBound; omega) fun h' tk m hS hm hk => ?_
    exact ⟨.ref _, _, I.laid (t' := tk) hk (Nat.le_refl _) (setO_new hS), rfl, q _ m (I.hok.fresh (Nat.le_refl _)) hm⟩
end
section
open HD
variable {K : PySem.W.Frag} {c : Wd K} {ρ : List S} {n : Nat} {ds : List I} {Q : QI}
/-- sorted(set(e)), e a list or a tuple -/
theorem sortSetA_ {w : World} {te : TE} (h : GE c ρ n ds te fun it ρ' n' => ∃ ns : List Int, it.seq = some (ns.map D.int) ∧ ns.length < 64 ∧ ∀ ms : List Int, ms.Pairwise (· < ·) → (∀ k, k ∈ ms ↔ k ∈ ns) → ms.length ≤ ns.length → Q (.o (.lst (ms.map D.int))) ρ' n') :
    GE c ρ n ds (tCB (rSortedSet w) (tCons (tCB (rSetA K w) (tCons te tNil)) tNil)) Q := fun σ H vs F s k =>
  h σ H vs _ s fun it ρ' n' v H' ⟨ns, e, hl, q⟩ ⟨L, B, s'⟩ => by
    obtain ⟨B', lx, s2, mv, hx⟩ := s'.it1
    obtain ⟨a, ws, rfl, hs, ra⟩ := hx.seq s'.sl e
    obtain rfl := ra.ints
    refine ⟨a, ns, rfl, hs, by omega, fun p m hp hm => ?_⟩
    refine ⟨p, _, m, rfl, upd_same, by omega, fun ms r hs hm2 hln hr => ?_⟩
    have s3 := s2.same (HX.same_new (o := SetO w p (fun j => decide (j ∈ ns)) m) hp)
    exact k _ _ _ _ _ (q ms hs (fun k => (hm2 k).trans ⟨fun z => of_decide_eq_true z, fun z => decide_eq_true z⟩) (by omega)) ⟨L, _, s3.pushO hr (RA.ofInts ms)⟩
end
end HQT
/-! data without truths: == is equality, `in` is membership -/
namespace HS2
open PySem PySem.Spec PyProof.Rows L2 HX HD
/-- nothing but None, integers, texts, lists and tuples, at most k deep -/
def nob : Nat → D → Bool
  | _, .non => true
  | _, .int _ => true
  | _, .str x => PyData.strOk x
  | k + 1, .tup xs => xs.all (nob k)
  | k + 1, .lst xs => xs.all (nob k)
  | _, _ => false
theorem nob_tup {k : Nat} {xs : List D} : nob (k + 1) (.tup xs) = xs.all (nob k) := rfl
theorem nob_lst {k : Nat} {xs : List D} : nob (k + 1) (.lst xs) = xs.all (nob k) := rfl
theorem nob_int {k : Nat} {i : Int} : nob k (.int i) = true := by cases k <;> rfl
theorem nob_non {k : Nat} : nob k .non = true := by cases k <;> rfl
theorem nob_ints {k : Nat} (ns : List Int) : nob (k + 1) (.lst (ns.map D.int)) = true := by
  rw [nob_lst, List.all_map, List.all_eq_true]; intro x _; exact nob_int
theorem nob_intsT {k : Nat} (ns : List Int) : nob (k + 1) (.tup (ns.map D.int)) = true := by
  rw [nob_tup, List.all_map, List.all_eq_true]; intro x _; exact nob_int
theorem dats_of : ∀ {xs : List D}, (∀ x ∈ xs, x.dat = true) → D.dats xs = true
  | [], _ => rfl
  | x :: xs, h => by rw [D.dats, h x (List.mem_cons_self ..), dats_of fun y hy => h y (List.mem_cons_of_mem _ hy)]; rfl
theorem lays_of : ∀ {xs : List D}, (∀ x ∈ xs, x.py.canLay0 = true) → PyData.canLayAll0 (D.pys xs) = true
  | [], _ => rfl
  | x :: xs, h => by rw [D.pys, PyData.canLayAll0, h x (List.mem_cons_self ..), lays_of fun y hy => h y (List.mem_cons_of_mem _ hy)]; rfl
theorem deps_of {k : Nat} : ∀ {xs : List D}, (∀ x ∈ xs, x.py.depth ≤ k) → PyData.depthAll (D.pys xs) ≤ k
  | [], _ => Nat.zero_le _
  | x :: xs, h => by
    rw [D.pys, PyData.depthAll]
    exact Nat.max_le.mpr ⟨h x (List.mem_cons_self ..), deps_of fun y hy => h y (List.mem_cons_of_mem _ hy)⟩
theorem nob_ok : ∀ (k : Nat) (d : D), nob k d = true → d.dat = true ∧ d.py.canLay0 = true ∧ d.py.depth ≤ k
  | _, .non, _ => ⟨by simp [D.dat], by simp [D.py, PyData.canLay0], by simp [D.py, PyData.depth]⟩
  | _, .int _, _ => ⟨by simp [D.dat], by simp [D.py, PyData.canLay0], by simp [D.py, PyData.depth]⟩
  | k, .str x, h => by
    have h : PyData.strOk x = true := by cases k <;> exact h
    exact ⟨by simp [D.dat], by simpa [D.py, PyData.canLay0] using h, by simp [D.py, PyData.depth]⟩
  | 0, .tup _, h => by simp [nob] at h
  | 0, .lst _, h => by simp [nob] at h
  | k + 1, .tup xs, h => by
    rw [nob_tup, List.all_eq_true] at h
    refine ⟨by rw [D.dat]; exact dats_of fun x hx => (nob_ok k x (h x hx)).1, by rw [D.py, PyData.canLay0]; exact lays_of fun x hx => (nob_ok k x (h x hx)).2.1, ?_⟩
    rw [D.py, PyData.depth]
    exact Nat.succ_le_succ (deps_of fun x hx => (nob_ok k x (h x hx)).2.2)
  | k + 1, .lst xs, h => by
    rw [nob_lst, List.all_eq_true] at h
    refine ⟨by rw [D.dat]; exact dats_of fun x hx => (nob_ok k x (h x hx)).1, by rw [D.py, PyData.canLay0]; exact lays_of fun x hx => (nob_ok k x (h x hx)).2.1, ?_⟩
    rw [D.py, PyData.depth]
    exact Nat.succ_le_succ (deps_of fun x hx => (nob_ok k x (h x hx)).2.2)
  | 0, .bl _, h => by simp [nob] at h
  | 0, .ty _, h => by simp [nob] at h
  | 0, .glo _, h => by simp [nob] at h
  | 0, .hat, h => by simp [nob] at h
  | 0, .ins _ _, h => by simp [nob] at h
  | k + 1, .bl _, h => by simp [nob] at h
  | k + 1, .ty _, h => by simp [nob] at h
  | k + 1, .glo _, h => by simp [nob] at h
  | k + 1, .hat, h => by simp [nob] at h
  | k + 1, .ins _ _, h => by simp [nob] at h
theorem nob_shaped {k : Nat} {d : D} (h : nob k d = true) (hk : Nat.ble k 64 = true) : SeqAt.shaped d.py = true := by
  obtain ⟨_, h2, h3⟩ := nob_ok k d h
  unfold SeqAt.shaped
  rw [h2, decide_eq_true (Nat.le_trans h3 (Nat.le_of_ble_eq_true hk))]; rfl
theorem eqvs_nob {k : Nat} (ih : ∀ a b : D, ∀ j, nob k a = true → nob j b = true → (PyData.eqv a.py b.py = true ↔ a = b)) {j : Nat} : ∀ {xs ys : List D}, (∀ x ∈ xs, nob k x = true) → (∀ y ∈ ys, nob j y = true) → (PyData.eqvAll (D.pys xs) (D.pys ys) = true ↔ xs = ys)
  | [], [], _, _ => ⟨fun _ => rfl, fun _ => rfl⟩
  | [], y :: ys, _, _ => ⟨fun h => by simp [D.pys, PyData.eqvAll] at h, fun h => by cases h⟩
  | x :: xs, [], _, _ => ⟨fun h => by simp [D.pys, PyData.eqvAll] at h, fun h => by cases h⟩
  | x :: xs, y :: ys, h1, h2 => by
    rw [D.pys, D.pys, PyData.eqvAll, Bool.and_eq_true, ih x y j (h1 x (List.mem_cons_self ..)) (h2 y (List.mem_cons_self ..)), eqvs_nob ih (fun z hz => h1 z (List.mem_cons_of_mem _ hz)) fun z hz => h2 z (List.mem_cons_of_mem _ hz)]
    exact ⟨fun ⟨a, b⟩ => by rw [a, b], fun e => by cases e; exact ⟨rfl, rfl⟩⟩
theorem nob_cases {k : Nat} {d : D} (h : nob k d = true) : d = .non ∨ (∃ i, d = .int i) ∨ (∃ x, d = .str x) ∨ (∃ m xs, k = m + 1 ∧ d = .tup xs ∧ ∀ x ∈ xs, nob m x = true) ∨ ∃ m xs, k = m + 1 ∧ d = .lst xs ∧ ∀ x ∈ xs, nob m x = true := by
  cases k with
  | zero => cases d <;> first | exact .inl rfl | exact .inr (.inl ⟨_, rfl⟩) | exact .inr (.inr (.inl ⟨_, rfl⟩)) | (simp [nob] at h)
  | succ k => cases d <;> first | exact .inl rfl | exact .inr (.inl ⟨_, rfl⟩) | exact .inr (.inr (.inl ⟨_, rfl⟩)) | exact .inr (.inr (.inr (.inl ⟨k, _, rfl, rfl, by rw [nob_tup, List.all_eq_true] at h; exact h⟩))) | exact .inr (.inr (.inr (.inr ⟨k, _, rfl, rfl, by rw [nob_lst, List.all_eq_true] at h; exact h⟩))) | (simp [nob] at h)
theorem eqv_nob : ∀ (k : Nat) (a b : D) (j : Nat), nob k a = true → nob j b = true → (PyData.eqv a.py b.py = true ↔ a = b) := by
  intro k
  induction k with
  | zero =>
    intro a b j ha hb
    rcases nob_cases ha with rfl | ⟨i, rfl⟩ | ⟨x, rfl⟩ | ⟨m, xs, e, _⟩ | ⟨m, xs, e, _⟩ <;> first | (cases e; done) | skip
    all_goals (rcases nob_cases hb with rfl | ⟨i', rfl⟩ | ⟨x', rfl⟩ | ⟨m, ys, rfl, rfl, _⟩ | ⟨m, ys, rfl, rfl, _⟩ <;> simp [D.py, PyData.eqv])
  | succ k ih =>
    intro a b j ha hb
    rcases nob_cases ha with rfl | ⟨i, rfl⟩ | ⟨x, rfl⟩ | ⟨m, xs, e, rfl, h1⟩ | ⟨m, xs, e, rfl, h1⟩
    · rcases nob_cases hb with rfl | ⟨i', rfl⟩ | ⟨x', rfl⟩ | ⟨m, ys, rfl, rfl, _⟩ | ⟨m, ys, rfl, rfl, _⟩ <;> simp [D.py, PyData.eqv]
    · rcases nob_cases hb with rfl | ⟨i', rfl⟩ | ⟨x', rfl⟩ | ⟨m, ys, rfl, rfl, _⟩ | ⟨m, ys, rfl, rfl, _⟩ <;> simp [D.py, PyData.eqv]
    · rcases nob_cases hb with rfl | ⟨i', rfl⟩ | ⟨x', rfl⟩ | ⟨m, ys, rfl, rfl, _⟩ | ⟨m, ys, rfl, rfl, _⟩ <;> simp [D.py, PyData.eqv]
    · cases e
      rcases nob_cases hb with rfl | ⟨i', rfl⟩ | ⟨x', rfl⟩ | ⟨m, ys, rfl, rfl, h2⟩ | ⟨m, ys, rfl, rfl, h2⟩
      · simp [D.py, PyData.eqv]
      · simp [D.py, PyData.eqv]
      · simp [D.py, PyData.eqv]
      · rw [D.py, D.py, PyData.eqv, eqvs_nob ih h1 h2]; exact ⟨fun e => by rw [e], fun e => by cases e; rfl⟩
      · simp [D.py, PyData.eqv]
    · cases e
      rcases nob_cases hb with rfl | ⟨i', rfl⟩ | ⟨x', rfl⟩ | ⟨m, ys, rfl, rfl, h2⟩ | ⟨m, ys, rfl, rfl, h2⟩
      · simp [D.py, PyData.eqv]
      · simp [D.py, PyData.eqv]
      · simp [D.py, PyData.eqv]
      · simp [D.py, PyData.eqv]
      · rw [D.py, D.py, PyData.eqv, eqvs_nob ih h1 h2]; exact ⟨fun e => by rw [e], fun e => by cases e; rfl⟩
noncomputable def eqB (a b : D) : Bool := @decide (a = b) (Classical.propDecidable _)
noncomputable def inB (a : D) (xs : List D) : Bool := @decide (a ∈ xs) (Classical.propDecidable _)
theorem eqB_iff {a b : D} : eqB a b = true ↔ a = b := @decide_eq_true_iff _ (Classical.propDecidable _)
theorem inB_iff {a : D} {xs : List D} : inB a xs = true ↔ a ∈ xs := @decide_eq_true_iff _ (Classical.propDecidable _)
theorem eqB_eq {a b : D} {c : Prop} [Decidable c] (h : a = b ↔ c) : eqB a b = decide c := by
  cases e : eqB a b with
  | true => exact (decide_eq_true (h.mp (eqB_iff.mp e))).symm
  | false => exact (decide_eq_false fun z => by rw [eqB_iff.mpr (h.mpr z)] at e; cases e).symm
theorem inB_eq {a : D} {xs : List D} {c : Prop} [Decidable c] (h : a ∈ xs ↔ c) : inB a xs = decide c := by
  cases e : inB a xs with
  | true => exact (decide_eq_true (h.mp (inB_iff.mp e))).symm
  | false => exact (decide_eq_false fun z => by rw [inB_iff.mpr (h.mpr z)] at e; cases e).symm
theorem ints_inj : ∀ {xs ys : List Int}, xs.map D.int = ys.map D.int ↔ xs = ys
  | [], [] => ⟨fun _ => rfl, fun _ => rfl⟩
  | [], _ :: _ => ⟨fun h => (by cases h), fun h => (by cases h)⟩
  | _ :: _, [] => ⟨fun h => (by cases h), fun h => (by cases h)⟩
  | x :: xs, y :: ys => by
    rw [List.map_cons, List.map_cons]
    exact ⟨fun h => by injection h with h1 h2; injection h1 with h1; rw [h1, ints_inj.mp h2], fun h => by rw [(List.cons.inj h).1, (List.cons.inj h).2]⟩
theorem eqB_ints {xs ys : List Int} : eqB (.lst (xs.map D.int)) (.lst (ys.map D.int)) = decide (xs = ys) := eqB_eq ⟨fun h => by injection h with h; exact ints_inj.mp h, fun h => by rw [h]⟩
theorem eqB_intsT {xs ys : List Int} : eqB (.tup (xs.map D.int)) (.tup (ys.map D.int)) = decide (xs = ys) := eqB_eq ⟨fun h => by injection h with h; exact ints_inj.mp h, fun h => by rw [h]⟩
section
variable {K : PySem.W.Frag} {c : Wd K} {ρ : List S} {n : Nat} {ds : List I} {Q : QI}
theorem cmp_nob {k j : Nat} {a b : D} (ha : nob k a = true) (hb : nob j b = true) (hk : Nat.ble k 64 = true) (hj : Nat.ble j 64 = true) : D.cmp a b := ⟨(nob_ok _ _ ha).1, (nob_ok _ _ hb).1, nob_shaped ha hk, nob_shaped hb hj⟩
theorem eqv_B {k j : Nat} {a b : D} (ha : nob k a = true) (hb : nob j b = true) : PyData.eqv a.py b.py = eqB a b := by
  have h := eqv_nob k a b j ha hb
  cases e : eqB a b with
  | true => exact h.mpr (eqB_iff.mp e)
  | false =>
    cases z : PyData.eqv a.py b.py with
    | false => rfl
    | true => rw [eqB_iff.mpr (h.mp z)] at e; cases e
/-- == without truths; k, j: how deep -/
theorem eqN_ (k j : Nat) {ix iy : I} (ha : nob k ix.val = true) (hb : nob j iy.val = true) (hk : Nat.ble k 64 = true) (hj : Nat.ble j 64 = true) (h : Q (.v (.bl (eqB ix.val iy.val))) ρ n) : GO c ρ n ds (rEqU K) ix iy Q := eqD_ (cmp_nob ha hb hk hj) (by rw [D.eqv, eqv_B ha hb]; exact h)
theorem neN_ (k j : Nat) {ix iy : I} (ha : nob k ix.val = true) (hb : nob j iy.val = true) (hk : Nat.ble k 64 = true) (hj : Nat.ble j 64 = true) (h : Q (.v (.bl (!eqB ix.val iy.val))) ρ n) : GO c ρ n ds (rNeU K) ix iy Q := neD_ (cmp_nob ha hb hk hj) (by rw [D.eqv, eqv_B ha hb]; exact h)
theorem any_nob {k j : Nat} {a : D} (ha : nob k a = true) : ∀ {xs : List D}, (∀ x ∈ xs, nob j x = true) → ((D.pys xs).any fun z => PyData.eqv z a.py) = inB a xs
  | [], _ => (inB_eq (c := False) ⟨fun h => (by cases h), False.elim⟩).symm
  | x :: xs, h => by
    rw [D.pys, List.any_cons, any_nob ha fun y hy => h y (List.mem_cons_of_mem _ hy), eqv_B (h x (List.mem_cons_self ..)) ha]
    cases e : eqB x a with
    | true => rw [eqB_iff.mp e]; exact (inB_iff.mpr (List.mem_cons_self ..)).symm
    | false =>
      rw [Bool.false_or]
      cases e2 : inB a xs with
      | true => exact (inB_iff.mpr (List.mem_cons_of_mem _ (inB_iff.mp e2))).symm
      | false =>
        cases e3 : inB a (x :: xs) with
        | false => rfl
        | true =>
          rcases List.mem_cons.mp (inB_iff.mp e3) with z | z
          · rw [eqB_iff.mpr z.symm] at e; cases e
          · rw [inB_iff.mpr z] at e2; cases e2
theorem inN_ (k j : Nat) {ix iy : I} {xs : List D} (e : iy.val = .lst xs) (ha : nob k ix.val = true) (hb : ∀ x ∈ xs, nob j x = true) (hk : Nat.ble k 64 = true) (hj : Nat.ble (j + 1) 64 = true) (h : Q (.v (.bl (inB ix.val xs))) ρ n) : GO c ρ n ds (rInD K) ix iy Q := by
  have hl : nob (j + 1) (.lst xs) = true := by rw [nob_lst, List.all_eq_true]; exact hb
  exact HY.inD_ e (nob_ok _ _ ha).1 (dats_of fun x hx => (nob_ok _ _ (hb x hx)).1) (nob_shaped ha hk) (nob_shaped hl hj) (by rw [any_nob ha hb]; exact h)
theorem niN_ (k j : Nat) {ix iy : I} {xs : List D} (e : iy.val = .lst xs) (ha : nob k ix.val = true) (hb : ∀ x ∈ xs, nob j x = true) (hk : Nat.ble k 64 = true) (hj : Nat.ble (j + 1) 64 = true) (h : Q (.v (.bl (!inB ix.val xs))) ρ n) : GO c ρ n ds (rNotInD K) ix iy Q := by
  have hl : nob (j + 1) (.lst xs) = true := by rw [nob_lst, List.all_eq_true]; exact hb
  exact HY.niD_ e (nob_ok _ _ ha).1 (dats_of fun x hx => (nob_ok _ _ (hb x hx)).1) (nob_shaped ha hk) (nob_shaped hl hj) (by rw [any_nob ha hb]; exact h)
theorem inF_ints {i : Int} {ns : List Int} : inF (.int i) (ns.map D.int) = decide (i ∈ ns) := by
  unfold inF
  induction ns with
  | nil => rfl
  | cons x xs ih =>
    rw [List.map_cons, List.any_cons, ih]
    by_cases e : i = x
    · subst e; simp [eqF]
    · simp only [eqF, List.mem_cons, e, false_or]
      rw [show (x == i) = false from beq_false_of_ne fun z => e z.symm, Bool.false_or]
end
/-! ### lists or tuples -/
theorem seq_some {d : D} {xs : List D} (h : d.seq = some xs) : d = .lst xs ∨ d = .tup xs := by
  cases d with
  | lst ys => cases h; exact .inl rfl
  | tup ys => cases h; exact .inr rfl
  | _ => cases h
theorem seq_tn {d : D} {xs : List D} (h : d.seq = some xs) : d.tn.isSome = true := by
  rcases seq_some h with rfl | rfl <;> rfl
/-- for over a list or a tuple, as it comes -/
def iSeqU (K : PySem.W.Frag) (tl : TE) : TI := fun σ H R => tl σ H fun x H1 => ∃ a, x = .ref a ∧ (((∃ xs, SqL K H1 a xs) ∧ R (Itl K a) H1) ∨ ((∃ xs, SqT K H1 a xs) ∧ R (Itt K a) H1))
theorem pi_seqU {X : Cx} {K : PySem.W.Frag} {tg l : Expr} {tl : TE} (hl : PE X l tl) (hK : X.K = K := by rfl) : PI X tg l (iSeqU K tl) := by
  cases hK
  refine ⟨fun pins s σ H R I h => ?_⟩
  refine thn (hl.run pins s σ H _ I h) fun v s1 ⟨x, H1, I1, r1, q1⟩ => ?_
  obtain ⟨a, e, q1⟩ := q1
  subst e
  cases r1
  rcases q1 with ⟨⟨xs, hq⟩, q⟩ | ⟨⟨xs, hq⟩, q⟩
  · obtain ⟨its, rv, p, hz⟩ := I1.list hq
    refine wpAny_pyIter_list p.isList ?_
    refine ⟨s1.heap.objs.size, [s1.heap.objs.size], _, _, H1, rfl, I1.kept (t' := s1.toks) fun b o e => Heap.get?_push_of_some _ e, turn_list a _, ⟨_, Heap.get?_push_size _ rfl, rfl, rfl⟩, fun b hb => ?_, q⟩
    have e : b = s1.heap.objs.size := by simpa using hb
    subst e
    exact I1.fpOk (Nat.le_refl _) (I1.hok.fresh (Nat.le_refl _))
  · obtain ⟨its, rv, p, hz⟩ := I1.tuple hq
    refine wpAny_pyIter_tuple (show s1.heap.IsTuple a its.toArray from p) ?_
    refine ⟨s1.heap.objs.size, [s1.heap.objs.size], _, _, H1, rfl, I1.kept (t' := s1.toks) fun b o e => Heap.get?_push_of_some _ e, turn_tuple a _, ⟨_, Heap.get?_push_size _ rfl, rfl, rfl⟩, fun b hb => ?_, q⟩
    have e : b = s1.heap.objs.size := by simpa using hb
    subst e
    exact I1.fpOk (Nat.le_refl _) (I1.hok.fresh (Nat.le_refl _))
section
variable {K : PySem.W.Frag} {c : Wd K} {ρ : List S} {n : Nat} {ds : List I} {Q : QI} {QG : QS}
theorem isiSq_ {it : I} {xs : List D} (e : it.seq = some xs) (h : Q (.v (.bl true)) ρ n) : GB c ρ n ds (rIsiTU K) [it, .v (.tup [.ty "list", .ty "tuple"])] Q := by
  rcases seq_some (show it.val.seq = some xs from e) with z | z
  · exact isiTB_ (t := "list") (by rw [z]; rfl) rfl (sq_kit (d := .lst xs) rfl) h
  · exact isiTB_ (t := "tuple") (by rw [z]; rfl) rfl (sq_kit (d := .tup xs) rfl) h
theorem isiNq_ {it : I} {t : String} (e : it.val.tn = some t) (hs : isSq it.val = false) (h : Q (.v (.bl false)) ρ n) : GB c ρ n ds (rIsiTU K) [it, .v (.tup [.ty "list", .ty "tuple"])] Q := isiTB_ e rfl (by rw [sq_kit e, hs]) h
theorem sq_L {xs : List D} {σ : L2.St} {H' : Hp} {v : V} {vs : List V} {F : It → Hp → Prop} (s2 : St c ρ n (.v (.lst xs) :: ds) σ H' (v :: vs)) (k : ∀ J, (∀ ds vs, Wk c [.v (.lst xs)] ds [v] vs J xs) → F J H') : ∃ a, v = V.ref a ∧ (((∃ xs, SqL K H' a xs) ∧ F (Itl K a) H') ∨ ((∃ xs, SqT K H' a xs) ∧ F (Itt K a) H')) := by
  obtain ⟨L, B, s3⟩ := id s2
  obtain ⟨a, ws, rfl, ha, _⟩ := s3.ls (xs := xs) rfl
  have main : ∀ {ds : List I} {vs : List V} {ρ : List S} {n : Nat} {ex : List I} {σ : L2.St} {H : Hp} {ews : List V}, ews.length = ex.length → St c ρ n (ex ++ ([.v (.lst xs)] ++ ds)) σ H (ews ++ ([.ref a] ++ vs)) → ∃ L B ws, StX c L B ρ n (ex ++ ([.v (.lst xs)] ++ ds)) σ H (ews ++ ([.ref a] ++ vs)) ∧ H a = some (.lst ws) ∧ RA K c.g (Mo c (L ++ B)) H ws xs := by
    intro ds vs ρ n ex σ H ews hl ⟨L, B, s⟩
    have := s.peek (d := .lst xs) (w := .ref a) hl
    cases this with
    | lst _ h r => exact ⟨L, B, _, s, h, r⟩
  refine ⟨a, rfl, .inl ⟨⟨ws, SqL.of ha⟩, k _ fun ds vs => ⟨?_, ?_, ?_⟩⟩⟩
  · intro i ρ n ex σ H ews hi hl s
    obtain ⟨L, B, ws, s, ha, r⟩ := main hl s
    have hi2 : i < ws.length := by rw [r.len]; exact hi
    exact ⟨ws, ws[i], SqL.of ha, List.getElem?_eq_getElem hi2⟩
  · intro i d ρ n ex σ H ews x H' hd hl s ⟨eH, y⟩
    obtain ⟨L, B, ws, s, ha, r⟩ := main hl s
    subst eH
    obtain ⟨w, hw, rw'⟩ := r.at hd
    have := y ws (SqL.of ha)
    rw [hw] at this
    cases this
    exact ⟨L, B, s.pushR rw'⟩
  · intro ρ n ex σ H ews hl s
    obtain ⟨L, B, ws, s, ha, r⟩ := main hl s
    exact ⟨ws, SqL.of ha, by rw [r.len]; exact Nat.le_refl _⟩
theorem sq_T {xs : List D} {σ : L2.St} {H' : Hp} {v : V} {vs : List V} {F : It → Hp → Prop} (s2 : St c ρ n (.v (.tup xs) :: ds) σ H' (v :: vs)) (k : ∀ J, (∀ ds vs, Wk c [.v (.tup xs)] ds [v] vs J xs) → F J H') : ∃ a, v = V.ref a ∧ (((∃ xs, SqL K H' a xs) ∧ F (Itl K a) H') ∨ ((∃ xs, SqT K H' a xs) ∧ F (Itt K a) H')) := by
  obtain ⟨L, B, s3⟩ := id s2
  cases s3.val with
  | @tup a ws _ ha ra =>
  have main : ∀ {ds : List I} {vs : List V} {ρ : List S} {n : Nat} {ex : List I} {σ : L2.St} {H : Hp} {ews : List V}, ews.length = ex.length → St c ρ n (ex ++ ([.v (.tup xs)] ++ ds)) σ H (ews ++ ([.ref a] ++ vs)) → ∃ L B ws, StX c L B ρ n (ex ++ ([.v (.tup xs)] ++ ds)) σ H (ews ++ ([.ref a] ++ vs)) ∧ SqT K H a ws ∧ RA K c.g (Mo c (L ++ B)) H ws xs := by
    intro ds vs ρ n ex σ H ews hl ⟨L, B, s⟩
    have := s.peek (d := .tup xs) (w := .ref a) hl
    cases this with
    | tup h r => exact ⟨L, B, _, s, h.sqt, r⟩
  refine ⟨a, rfl, .inr ⟨⟨ws, ha.sqt⟩, k _ fun ds vs => ⟨?_, ?_, ?_⟩⟩⟩
  · intro i ρ n ex σ H ews hi hl s
    obtain ⟨L, B, ws, s, ha, r⟩ := main hl s
    have hi2 : i < ws.length := by rw [r.len]; exact hi
    exact ⟨ws, ws[i], ha, List.getElem?_eq_getElem hi2⟩
  · intro i d ρ n ex σ H ews x H' hd hl s ⟨eH, y⟩
    obtain ⟨L, B, ws, s, ha, r⟩ := main hl s
    subst eH
    obtain ⟨w, hw, rw'⟩ := r.at hd
    have := y ws ha
    rw [hw] at this
    cases this
    exact ⟨L, B, s.pushR rw'⟩
  · intro ρ n ex σ H ews hl s
    obtain ⟨L, B, ws, s, ha, r⟩ := main hl s
    exact ⟨ws, ha, by rw [r.len]; exact Nat.le_refl _⟩
theorem iseq_ {te : TE} {Q : List I → List D → QS} (h : GE c ρ n ds te fun it ρ' n' => ∃ xs, it.seq = some xs ∧ Q [.v it.val] xs (frz1 ρ' it) n') : GI c ρ n ds (iSeqU K te) Q := fun σ H vs F s k =>
  h σ H vs _ s fun it ρ' n' v H' ⟨xs, e, q⟩ s1 => by
    have s2 := St.frz1 (ds := ds) s1
    have es' : it.val.seq = some xs := e
    generalize it.val = d at s2 es' q
    rcases seq_some es' with rfl | rfl
    · exact sq_L s2 fun J wk => k [.v (.lst xs)] _ _ n' [v] J H' q rfl s2 wk
    · exact sq_T s2 fun J wk => k [.v (.tup xs)] _ _ n' [v] J H' q rfl s2 wk
theorem gseq_ {m : Nat} {gs : TGs} {it : I} {xs : List D} (e : it.seq = some xs) (hl : xs.length = m) (h : GGs c (frz1 ρ it) n ds gs (xs.map I.v) QG) : GG c ρ n ds (HU.gSeq K m gs) it QG := fun σ H vs v F s k => by
  have s2 := s.frz1
  have es' : it.val.seq = some xs := e
  generalize it.val = d at s2 es'
  rcases seq_some es' with rfl | rfl
  · exact .inl (HD.gunl_ rfl hl h σ H vs v F s2 k)
  · exact .inr (HD.gtup_ hl h σ H vs v F s2 k)
theorem tupleOf_ {it : I} {xs : List D} (e : it.seq = some xs) (h : ∀ ρ', ρ' = ρ ∨ ρ' = frz1 ρ it → Q (.v (.tup xs)) ρ' n) : GB c ρ n ds (rTupleOf K) [it] Q := by
  rcases seq_some (show it.val.seq = some xs from e) with z | z
  · exact tupleOfL_ z (h ρ (.inl rfl))
  · refine gb1 fun σ H vs x F L B s k => ?_
    have s2 := St.frz1 (ds := ds) ⟨L, B, s⟩
    rw [z] at s2
    obtain ⟨L, B, s2⟩ := s2
    exact tupleOfT_ (h _ (.inr rfl)) σ H vs [x] F rfl ⟨L, B, s2⟩ k
theorem listOfA_ {it : I} {xs : List D} (e : it.seq = some xs) (h : Q (.o (.lst xs)) ρ n) : GB c ρ n ds (rListOf K) [it] Q := listOf_ e h
end
theorem sIx_to (n d k : Nat) : HT.sIx n d (some (k : Int)) = min k n := HT.sIx_nat n d k
theorem cutD_to (xs : List D) (k : Nat) : HD.cutD xs none (some (k : Int)) = xs.take k := by
  have e1 : HT.sIx xs.length 0 none = 0 := rfl
  unfold HD.cutD
  rw [e1, sIx_to, List.drop_zero, Nat.sub_zero]
  rcases Nat.le_total k xs.length with h | h
  · rw [Nat.min_eq_left h]
  · rw [Nat.min_eq_right h, List.take_length, List.take_of_length_le h]
theorem cutD_from (xs : List D) (k : Nat) : HD.cutD xs (some (k : Int)) none = xs.drop k := by
  have e1 : HT.sIx xs.length xs.length none = xs.length := rfl
  unfold HD.cutD
  rw [e1, sIx_to]
  rcases Nat.le_total k xs.length with h | h
  · rw [Nat.min_eq_left h, List.take_of_length_le (by rw [List.length_drop]; exact Nat.le_refl _)]
  · rw [Nat.min_eq_right h, Nat.sub_self, List.take_zero, List.drop_eq_nil_of_le h]
theorem inB_false {a : D} {xs : List D} (h : a ∉ xs) : inB a xs = false := by
  cases e : inB a xs with
  | false => rfl
  | true => exact absurd (inB_iff.mp e) h
theorem inB_true {a : D} {xs : List D} (h : a ∈ xs) : inB a xs = true := inB_iff.mpr h
theorem eqB_false {a b : D} (h : a ≠ b) : eqB a b = false := by
  cases e : eqB a b with
  | false => rfl
  | true => exact absurd (eqB_iff.mp e) h
theorem eqB_true {a b : D} (h : a = b) : eqB a b = true := eqB_iff.mpr h
theorem nodup_le {α : Type} [BEq α] [LawfulBEq α] : ∀ (l M : List α), l.Nodup → (∀ x ∈ l, x ∈ M) → l.length ≤ M.length
  | [], _, _, _ => Nat.zero_le _
  | x :: l, M, hn, h => by
    have h1 := List.nodup_cons.mp hn
    have hx := h x (List.mem_cons_self ..)
    have ih := nodup_le l (M.erase x) h1.2 fun y hy => (List.mem_erase_of_ne (fun e => h1.1 (by rw [← e]; exact hy))).mpr (h y (List.mem_cons_of_mem _ hy))
    rw [List.length_erase_of_mem hx] at ih
    have := List.length_pos_of_mem hx
    rw [List.length_cons]
    omega
theorem str_ok (s : String) : PyData.strOk (Str.ofString s) = true := by
  unfold PyData.strOk
  rw [← Array.all_toList, signs_ofString, List.all_eq_true]
  intro n hn
  obtain ⟨c, _, rfl⟩ := List.mem_map.mp hn
  refine decide_eq_true ?_
  rcases c.valid with h | h
  · exact Nat.lt_trans h (by decide)
  · exact h.2
end HS2
/-! bits of integers from nought -/
namespace HBt
open PySem PySem.Spec PyProof.Rows L2 HX HD
/-- the places of the bits of a number below 2 ^ 64 -/
def nums (x : Nat) : List Nat := (List.range 64).filter fun i => x.testBit i
theorem range_filter {p : Nat → Bool} : ∀ {m n : Nat}, m ≤ n → (∀ i, m ≤ i → p i = false) → (List.range n).filter p = (List.range m).filter p := fun {m n} h hp => by
  obtain ⟨k, rfl⟩ := Nat.le.dest h
  rw [List.range_add, List.filter_append]
  rw [show ((List.range k).map (m + ·)).filter p = [] from List.filter_eq_nil_iff.mpr fun x hx => by
    obtain ⟨j, _, rfl⟩ := List.mem_map.mp hx
    rw [hp _ (Nat.le_add_right m j)]; exact Bool.false_ne_true]
  rw [List.append_nil]
theorem nums_mem {x i : Nat} (h : x < 2 ^ 64) : i ∈ nums x ↔ x.testBit i = true := by
  unfold nums
  rw [List.mem_filter, List.mem_range]
  refine ⟨fun h => h.2, fun hb => ⟨?_, hb⟩⟩
  rcases Nat.lt_or_ge i 64 with z | z
  · exact z
  · rw [Nat.testBit_lt_two_pow (Nat.lt_of_lt_of_le h (Nat.pow_le_pow_right (by decide) z))] at hb; cases hb
theorem nums_bits {x : Nat} (h : x < 2 ^ 64) : (List.range (Builtin.Int.intBits (x : Int))).filter (fun i => x.testBit i) = nums x := by
  have h1 : Builtin.Int.intBits (x : Int) ≤ 64 := intBits_le (by rw [Int.natAbs_natCast]; exact h)
  unfold nums
  refine (range_filter h1 fun i hi => ?_).symm
  have h2 : x < 2 ^ (Builtin.Int.intBits (x : Int)) := by
    have := (PySem.intBits_le_iff (m := Builtin.Int.intBits (x : Int)) (x := (x : Int))).mp (Nat.le_refl _)
    rwa [Int.natAbs_natCast] at this
  exact Nat.testBit_lt_two_pow (Nat.lt_of_lt_of_le h2 (Nat.pow_le_pow_right (by decide) hi))
theorem testBit_div {x i : Nat} : decide (((x / 2 ^ i % 2 : Nat) : Int) = 1) = x.testBit i := by
  rw [Nat.testBit_eq_decide_div_mod_eq]
  by_cases h : x / 2 ^ i % 2 = 1
  · rw [decide_eq_true (by rw [h]; rfl), decide_eq_true h]
  · rw [decide_eq_false (fun z => h (by exact_mod_cast z)), decide_eq_false h]
theorem nums_pair (x : Nat) : (nums x).Pairwise (· < ·) := List.Pairwise.filter _ List.pairwise_lt_range
/-! ### the lowest bit -/
def lowb (n : Nat) : Nat := (Builtin.bitAnd (n : Int) (-(n : Int))).toNat
theorem odd_part : ∀ (n : Nat), 0 < n → ∃ k a, n = 2 ^ k * (2 * a + 1) := fun n => by
  induction n using Nat.strongRecOn with
  | ind n ih =>
    intro hn
    rcases Nat.mod_two_eq_zero_or_one n with h | h
    · obtain ⟨k, a, e⟩ := ih (n / 2) (by omega) (by omega)
      refine ⟨k + 1, a, ?_⟩
      rw [Nat.pow_succ, Nat.mul_comm (2 ^ k) 2, Nat.mul_assoc, ← e]; omega
    · exact ⟨0, n / 2, by omega⟩
theorem lowb_spec {n : Nat} (hn : 0 < n) : ∃ k, lowb n = 2 ^ k ∧ Builtin.bitAnd (n : Int) (-(n : Int)) = ((lowb n : Nat) : Int) ∧ n.testBit k = true ∧ ∀ j, j < k → n.testBit j = false := by
  obtain ⟨k, a, e⟩ := odd_part n hn
  have h := PySem.W.kbt_low k (a : Int)
  have e2 : (2 : Int) ^ k * (2 * (a : Int) + 1) = ((n : Nat) : Int) := by rw [e]; push_cast; rfl
  rw [e2] at h
  have e3 : lowb n = 2 ^ k := by
    unfold lowb
    rw [h, show (2 : Int) ^ k = ((2 ^ k : Nat) : Int) from by push_cast; rfl, Int.toNat_natCast]
  refine ⟨k, e3, by rw [h, e3]; push_cast; rfl, ?_, fun j hj => ?_⟩
  · rw [e, Nat.mul_comm, Nat.testBit_mul_two_pow]
    simp
  · rw [e, Nat.mul_comm, Nat.testBit_mul_two_pow]
    simp only [ge_iff_le, Bool.and_eq_false_iff, decide_eq_false_iff_not]
    exact .inl (Nat.not_le_of_lt hj)
section
variable {K : PySem.W.Frag} {c : Wd K} {ρ : List S} {n : Nat} {ds : List I} {Q : QI} {a b : Nat}
theorem xorN_ (h : Q (.v (.int ((a ^^^ b : Nat) : Int))) ρ n) : GO c ρ n ds (rI0 fun i j => .int (Builtin.bitXor i j)) (.v (.int (a : Int))) (.v (.int (b : Int))) Q := iInt_ (f := fun i j => Builtin.bitXor i j) (by rw [HY.xor_nat]; exact h)
theorem orN_ (h : Q (.v (.int ((a ||| b : Nat) : Int))) ρ n) : GO c ρ n ds (rI0 fun i j => .int (Builtin.bitOr i j)) (.v (.int (a : Int))) (.v (.int (b : Int))) Q := iInt_ (f := fun i j => Builtin.bitOr i j) (by rw [HY.or_nat]; exact h)
theorem andN_ (h : Q (.v (.int ((a &&& b : Nat) : Int))) ρ n) : GO c ρ n ds (rI0 fun i j => .int (Builtin.bitAnd i j)) (.v (.int (a : Int))) (.v (.int (b : Int))) Q := iInt_ (f := fun i j => Builtin.bitAnd i j) (by rw [PySem.W.os_band]; exact h)
theorem and1_ (h : Q (.v (.int ((a % 2 : Nat) : Int))) ρ n) : GO c ρ n ds (rI0 fun i j => .int (Builtin.bitAnd i j)) (.v (.int (a : Int))) (.v (.int 1)) Q := iInt_ (f := fun i j => Builtin.bitAnd i j) (by rw [bitAnd_m1]; exact h)
theorem shr_ (h : Q (.v (.int ((a / 2 ^ b : Nat) : Int))) ρ n) : GO c ρ n ds (rI (fun _ j => 0 ≤ j) fun i j => .int (i / 2 ^ j.toNat)) (.v (.int (a : Int))) (.v (.int (b : Int))) Q := iC_ (f := fun i j => i / 2 ^ j.toNat) (Int.natCast_nonneg _) (by
  rw [Int.toNat_natCast, show ((a : Int) / 2 ^ b) = ((a / 2 ^ b : Nat) : Int) from by push_cast; rfl]; exact h)
theorem shl_ (ha : a < 2 ^ 64) (hb : b ≤ 1000000) (h : Q (.v (.int ((a * 2 ^ b : Nat) : Int))) ρ n) : GO c ρ n ds (rI CPow fun i j => .int (i * 2 ^ j.toNat)) (.v (.int (a : Int))) (.v (.int (b : Int))) Q := iC_ (f := fun i j => i * 2 ^ j.toNat) ⟨Int.natCast_nonneg _, by omega, by rw [Int.natAbs_natCast]; exact ha⟩ (by
  rw [Int.toNat_natCast, show ((a : Int) * 2 ^ b) = ((a * 2 ^ b : Nat) : Int) from by push_cast; rfl]; exact h)
theorem shl1_ (hb : b ≤ 1000000) (h : Q (.v (.int ((2 ^ b : Nat) : Int))) ρ n) : GO c ρ n ds (rI CPow fun i j => .int (i * 2 ^ j.toNat)) (.v (.int 1)) (.v (.int (b : Int))) Q := shl_ (a := 1) (by decide) hb (by rw [Nat.one_mul]; exact h)
theorem low_ (ha : 0 < a) (h : Q (.v (.int ((lowb a : Nat) : Int))) ρ n) : GO c ρ n ds (rI0 fun i j => .int (Builtin.bitAnd i j)) (.v (.int (a : Int))) (.v (.int (-(a : Int)))) Q := iInt_ (f := fun i j => Builtin.bitAnd i j) (by
  obtain ⟨k, _, e, _⟩ := lowb_spec ha
  rw [e]; exact h)
theorem addN_ (h : Q (.v (.int ((a + b : Nat) : Int))) ρ n) : GO c ρ n ds (rAddU K) (.v (.int (a : Int))) (.v (.int (b : Int))) Q := addI_ (by rw [show ((a : Int) + (b : Int)) = ((a + b : Nat) : Int) from rfl]; exact h)
theorem add1_ (h : Q (.v (.int ((a + 1 : Nat) : Int))) ρ n) : GO c ρ n ds (rAddU K) (.v (.int (a : Int))) (.v (.int 1)) Q := addI_ (by rw [show ((a : Int) + 1) = ((a + 1 : Nat) : Int) from rfl]; exact h)
/-! ### range of a number from nought -/
theorem natpow62 {m : Nat} (h : m < 2 ^ 62) : (m : Int) < 2 ^ 62 := by
  have : ((2 ^ 62 : Nat) : Int) = 2 ^ 62 := by decide
  omega
def rngN (m : Nat) : List D := (List.range m).map fun (i : Nat) => D.int (i : Int)
theorem rngN_len {m : Nat} : (rngN m).length = m := by unfold rngN; rw [List.length_map, List.length_range]
theorem rngN_at {m i : Nat} {d : D} (h : (rngN m)[i]? = some d) : i < m ∧ d = .int (i : Int) := by
  have hi := (List.getElem?_eq_some_iff.mp h).1
  rw [rngN_len] at hi
  unfold rngN at h
  rw [List.getElem?_map, List.getElem?_range hi] at h
  exact ⟨hi, (Option.some.inj h).symm⟩
theorem rngN_mem {m : Nat} {d : D} (h : d ∈ rngN m) : ∃ i, i < m ∧ d = .int (i : Int) := by
  obtain ⟨i, hi, rfl⟩ := List.mem_map.mp h
  exact ⟨i, List.mem_range.mp hi, rfl⟩
theorem rngN_eq (m : Nat) : rngD 0 (m : Int).toNat = rngN m := by
  unfold rngD rngN
  rw [Int.toNat_natCast]
  refine List.map_congr_left fun i _ => ?_
  rw [Int.zero_add]
theorem irngN_ {ta : TA} {Q : List I → List D → QS} (h : GA c ρ n ds ta fun its ρ' n' => ∃ m : Nat, its = [.v (.int (m : Int))] ∧ m < 2 ^ 62 ∧ Q [] (rngN m) ρ' n') : GI c ρ n ds (iRng1 ta) Q := irng1_ (fun σ H vs F s k => h σ H vs F s fun its ρ' n' xs H' ⟨m, e, hm, q⟩ hl s' => k its ρ' n' xs H' ⟨(m : Int), e, ⟨by omega, natpow62 hm⟩, by rw [rngN_eq]; exact q⟩ hl s')
theorem exrng_ {m : Nat} {P : Nat → Prop} (hm : m < 2 ^ 62) (h : P m) : ∃ k : Nat, [I.v (.int (m : Int))] = [.v (.int (k : Int))] ∧ k < 2 ^ 62 ∧ P k := ⟨m, rfl, hm, h⟩
end
theorem filter_map_int {p : Nat → Bool} {q : D → Bool} (h : ∀ i : Nat, q (.int (i : Int)) = p i) : ∀ l : List Nat, (l.map fun (i : Nat) => D.int (i : Int)).filter q = (l.filter p).map fun (i : Nat) => D.int (i : Int)
  | [] => rfl
  | i :: l => by
    rw [List.map_cons, List.filter_cons, List.filter_cons, h i, filter_map_int h l]
    cases p i <;> rfl
theorem nums_sum {x : Nat} : ∀ n : Nat, (((List.range n).filter fun i => x.testBit i).map (2 ^ ·)).sum = x % 2 ^ n
  | 0 => by rw [Nat.pow_zero, Nat.mod_one]; rfl
  | n + 1 => by
    rw [List.range_succ, List.filter_append, List.map_append, List.sum_append, nums_sum n, Nat.pow_succ, Nat.mod_mul]
    congr 1
    have h := Nat.testBit_eq_decide_div_mod_eq (x := x) (i := n)
    rcases Nat.mod_two_eq_zero_or_one (x / 2 ^ n) with e | e <;> rw [e] at h ⊢ <;> simp [h]
theorem nums_all {x : Nat} (h : x < 2 ^ 64) : ((nums x).map (2 ^ ·)).sum = x := by unfold nums; rw [nums_sum, Nat.mod_eq_of_lt h]
theorem nums_count {x n : Nat} (h : x < 2 ^ n) (hn : n ≤ 64) : (nums x).length = (List.range n).countP fun i => x.testBit i := by
  unfold nums
  rw [List.countP_eq_length_filter, range_filter hn fun i hi => Nat.testBit_lt_two_pow (Nat.lt_of_lt_of_le h (Nat.pow_le_pow_right (by decide) hi))]
theorem sorted_unique : ∀ {a b : List Int}, a.Pairwise (· < ·) → b.Pairwise (· < ·) → (∀ k, k ∈ a ↔ k ∈ b) → a = b
  | [], [], _, _, _ => rfl
  | [], y :: b, _, _, h => absurd ((h y).mpr (List.mem_cons_self ..)) (by simp)
  | x :: a, [], _, _, h => absurd ((h x).mp (List.mem_cons_self ..)) (by simp)
  | x :: a, y :: b, ha, hb, h => by
    have h1 := List.pairwise_cons.mp ha
    have h2 := List.pairwise_cons.mp hb
    have e : x = y := by
      rcases List.mem_cons.mp ((h x).mp (List.mem_cons_self ..)) with z | z
      · exact z
      · rcases List.mem_cons.mp ((h y).mpr (List.mem_cons_self ..)) with w | w
        · exact w.symm
        · have := h2.1 x z; have := h1.1 y w; omega
    subst e
    rw [sorted_unique h1.2 h2.2 fun k => ?_]
    constructor
    · intro hk
      rcases List.mem_cons.mp ((h k).mp (List.mem_cons_of_mem _ hk)) with z | z
      · subst z; have := h1.1 k hk; omega
      · exact z
    · intro hk
      rcases List.mem_cons.mp ((h k).mpr (List.mem_cons_of_mem _ hk)) with z | z
      · subst z; have := h2.1 k hk; omega
      · exact z
/-- integers from nought as data -/
def natsD (l : List Nat) : List D := l.map fun (i : Nat) => D.int (i : Int)
theorem natsD_ints (l : List Nat) : natsD l = (l.map fun (i : Nat) => (i : Int)).map D.int := by unfold natsD; rw [List.map_map]; rfl
end HBt
/-! the plain law of free vectors by two -/
namespace HGf
/-- a free vector: its lowest bit, the vector, the lot that makes it, its outcome -/
structure Q4 where
  h : Nat
  v : Nat
  l : Nat
  o : Nat
/-- the sum by two of the numbers of a lot; the first one has the number k -/
def X (lot : Nat) : Nat → List Nat → Nat
  | _, [] => 0
  | k, v :: vs => (if lot.testBit k = true then v else 0) ^^^ X lot (k + 1) vs
theorem xx (a b : Nat) : a ^^^ b ^^^ b = a := by rw [Nat.xor_assoc, Nat.xor_self, Nat.xor_zero]
theorem x4 (a b c d : Nat) : (a ^^^ b) ^^^ (c ^^^ d) = (a ^^^ c) ^^^ (b ^^^ d) := by
  rw [Nat.xor_assoc, Nat.xor_assoc, ← Nat.xor_assoc b c d, Nat.xor_comm b c, Nat.xor_assoc c b d]
theorem xor_swap {a b c : Nat} (h : a ^^^ b = c) : a = c ^^^ b := by rw [← h, xx]
theorem xor_eq0 {a b : Nat} (h : a ^^^ b = 0) : a = b := by
  have := xor_swap h
  rwa [Nat.zero_xor] at this
theorem X_zero : ∀ (k : Nat) (vs : List Nat), X 0 k vs = 0
  | _, [] => rfl
  | k, v :: vs => by rw [X, Nat.zero_testBit, X_zero (k + 1) vs, if_neg Bool.false_ne_true, Nat.xor_zero]
theorem X_xor (a b : Nat) : ∀ (k : Nat) (vs : List Nat), X (a ^^^ b) k vs = X a k vs ^^^ X b k vs
  | _, [] => (Nat.xor_zero 0).symm
  | k, v :: vs => by
    rw [X, X, X, X_xor a b (k + 1) vs, x4, Nat.testBit_xor]
    congr 1
    cases a.testBit k <;> cases b.testBit k <;> simp
theorem X_append (lot : Nat) : ∀ (k : Nat) (vs ws : List Nat), X lot k (vs ++ ws) = X lot k vs ^^^ X lot (k + vs.length) ws
  | k, [], ws => by rw [List.nil_append, X, Nat.zero_xor, List.length_nil, Nat.add_zero]
  | k, v :: vs, ws => by
    rw [List.cons_append, X, X, X_append lot (k + 1) vs ws, ← Nat.xor_assoc, List.length_cons, show k + 1 + vs.length = k + (vs.length + 1) by omega]
/-- no number of the lot is met -/
theorem X_none {lot : Nat} : ∀ {k : Nat} {vs : List Nat}, (∀ i, k ≤ i → lot.testBit i = false) → X lot k vs = 0
  | _, [], _ => rfl
  | k, v :: vs, h => by
    rw [X, h k (Nat.le_refl k), X_none fun i hi => h i (by omega), if_neg Bool.false_ne_true, Nat.xor_zero]
theorem bit_hi {lot n i : Nat} (h : lot < 2 ^ n) (hi : n ≤ i) : lot.testBit i = false := Nat.testBit_lt_two_pow (Nat.lt_of_lt_of_le h (Nat.pow_le_pow_right (by decide) hi))
theorem X_snoc {lot v : Nat} {vs : List Nat} : X lot 0 (vs ++ [v]) = X lot 0 vs ^^^ (if lot.testBit vs.length = true then v else 0) := by
  rw [X_append, Nat.zero_add, X, X, Nat.xor_zero]
theorem X_low {lot v : Nat} {vs : List Nat} (h : lot < 2 ^ vs.length) : X lot 0 (vs ++ [v]) = X lot 0 vs := by
  rw [X_snoc, bit_hi h (Nat.le_refl _)]; exact Nat.xor_zero _
theorem X_low' {lot : Nat} {vs ws : List Nat} (h : lot < 2 ^ vs.length) : X lot 0 (vs ++ ws) = X lot 0 vs := by
  rw [X_append, Nat.zero_add, X_none fun i hi => bit_hi h hi, Nat.xor_zero]
theorem X_pow {n : Nat} : ∀ {k : Nat} {vs : List Nat} {v : Nat}, k ≤ n → vs[n - k]? = some v → X (2 ^ n) k vs = v
  | _, [], _, _, e => by cases e
  | k, w :: vs, v, h, e => by
    rw [X]
    rcases Nat.lt_or_ge k n with z | z
    · rw [Nat.testBit_two_pow_of_ne (Nat.ne_of_gt z), if_neg Bool.false_ne_true, Nat.zero_xor]
      refine X_pow (by omega) ?_
      rw [show n - k = (n - (k + 1)) + 1 by omega] at e
      exact e
    · have : k = n := Nat.le_antisymm h z
      subst this
      rw [Nat.sub_self] at e
      cases e
      rw [Nat.testBit_two_pow_self, if_pos rfl, X_none fun i hi => Nat.testBit_two_pow_of_ne (by omega), Nat.xor_zero]
theorem X_top {v : Nat} {vs : List Nat} : X (2 ^ vs.length) 0 (vs ++ [v]) = v := X_pow (Nat.zero_le _) (by rw [Nat.sub_zero]; simp)
theorem X_map {f : Nat → Nat} (h0 : f 0 = 0) (hx : ∀ a b, f (a ^^^ b) = f a ^^^ f b) (lot : Nat) : ∀ (k : Nat) (vs : List Nat), f (X lot k vs) = X lot k (vs.map f)
  | _, [] => h0
  | k, v :: vs => by
    rw [X, hx, X_map h0 hx lot (k + 1) vs, List.map_cons, X]
    congr 1
    split
    · rfl
    · exact h0
/-- what some of the vectors of a base add up to -/
def Sp : List Q4 → Nat → Nat → Nat → Prop
  | [], v, l, o => v = 0 ∧ l = 0 ∧ o = 0
  | q :: b, v, l, o => Sp b v l o ∨ Sp b (v ^^^ q.v) (l ^^^ q.l) (o ^^^ q.o)
theorem Sp.zero : ∀ b : List Q4, Sp b 0 0 0
  | [] => ⟨rfl, rfl, rfl⟩
  | _ :: b => .inl (Sp.zero b)
theorem Sp.xor : ∀ {b : List Q4} {v l o v' l' o' : Nat}, Sp b v l o → Sp b v' l' o' → Sp b (v ^^^ v') (l ^^^ l') (o ^^^ o')
  | [], _, _, _, _, _, _, ⟨a1, a2, a3⟩, ⟨b1, b2, b3⟩ => by subst a1 a2 a3 b1 b2 b3; exact ⟨rfl, rfl, rfl⟩
  | q :: b, v, l, o, v', l', o', h, h' => by
    have r : ∀ a c d : Nat, (a ^^^ d) ^^^ c = a ^^^ c ^^^ d := fun a c d => by rw [Nat.xor_assoc, Nat.xor_comm d c, ← Nat.xor_assoc]
    have s : ∀ a c d : Nat, a ^^^ (c ^^^ d) = a ^^^ c ^^^ d := fun a c d => by rw [← Nat.xor_assoc]
    have t : ∀ a c d : Nat, (a ^^^ d) ^^^ (c ^^^ d) = a ^^^ c := fun a c d => by rw [x4, Nat.xor_self, Nat.xor_zero]
    rcases h with h | h <;> rcases h' with h' | h'
    · exact .inl (h.xor h')
    · have := h.xor h'; rw [s v v' q.v, s l l' q.l, s o o' q.o] at this; exact .inr this
    · have := h.xor h'; rw [r v v' q.v, r l l' q.l, r o o' q.o] at this; exact .inr this
    · have := h.xor h'; rw [t v v' q.v, t l l' q.l, t o o' q.o] at this; exact .inl this
theorem Sp.more : ∀ {b c : List Q4} {v l o : Nat}, Sp b v l o → Sp (b ++ c) v l o
  | [], c, _, _, _, ⟨a1, a2, a3⟩ => by subst a1 a2 a3; exact Sp.zero c
  | q :: b, c, _, _, _, h => h.elim (fun h => .inl h.more) fun h => .inr h.more
theorem Sp.last : ∀ (b : List Q4) (q : Q4), Sp (b ++ [q]) q.v q.l q.o
  | [], q => .inr ⟨Nat.xor_self _, Nat.xor_self _, Nat.xor_self _⟩
  | _ :: b, q => .inl (Sp.last b q)
theorem Sp.bit {k : Nat} : ∀ {b : List Q4} {v l o : Nat}, (∀ p ∈ b, p.v.testBit k = false) → Sp b v l o → v.testBit k = false
  | [], _, _, _, _, ⟨a1, _, _⟩ => by subst a1; exact Nat.zero_testBit k
  | q :: b, v, _, _, hb, h => by
    rcases h with h | h
    · exact Sp.bit (fun p hp => hb p (List.mem_cons_of_mem _ hp)) h
    · have := Sp.bit (fun p hp => hb p (List.mem_cons_of_mem _ hp)) h
      rw [Nat.testBit_xor, hb q (List.mem_cons_self ..), Bool.xor_false] at this
      exact this
/-- each vector without the heads ahead of it -/
def Tri : List Q4 → Prop
  | [] => True
  | q :: b => (∃ k, q.h = 2 ^ k ∧ q.v.testBit k = true ∧ ∀ p ∈ b, p.v.testBit k = false) ∧ Tri b
def Clear (b : List Q4) (v : Nat) : Prop := ∀ q ∈ b, ∀ k, q.h = 2 ^ k → v.testBit k = false
theorem Sp.clear : ∀ {b : List Q4} {v l o : Nat}, Tri b → Clear b v → Sp b v l o → v = 0 ∧ l = 0 ∧ o = 0
  | [], _, _, _, _, _, h => h
  | q :: b, v, l, o, ⟨⟨k, h1, h2, h3⟩, t⟩, hc, h => by
    have hb : Clear b v := fun p hp => hc p (List.mem_cons_of_mem _ hp)
    rcases h with h | h
    · exact Sp.clear t hb h
    · have := Sp.bit h3 h
      rw [Nat.testBit_xor, hc q (List.mem_cons_self ..) k h1, h2] at this
      cases this
theorem pow_inj {j k : Nat} (h : 2 ^ j = 2 ^ k) : j = k := by
  have := congrArg Nat.log2 h
  rwa [Nat.log2_two_pow, Nat.log2_two_pow] at this
/-- what a base leaves of a vector, the lot and the outcome -/
def red : List Q4 → Nat → Nat → Nat → Nat × Nat × Nat
  | [], v, t, o => (v, t, o)
  | q :: b, v, t, o => if v &&& q.h = 0 then red b v t o else red b (v ^^^ q.v) (t ^^^ q.l) (o ^^^ q.o)
theorem and_pow {v k : Nat} : v &&& 2 ^ k = 0 ↔ v.testBit k = false := by
  constructor
  · intro h
    have := congrArg (fun x => x.testBit k) h
    simpa [Nat.testBit_and, Nat.testBit_two_pow_self] using this
  · intro h
    refine Nat.eq_of_testBit_eq fun i => ?_
    rw [Nat.testBit_and, Nat.zero_testBit]
    by_cases e : k = i
    · subst e; rw [h]; rfl
    · rw [Nat.testBit_two_pow_of_ne e, Bool.and_false]
theorem red_spec : ∀ {b : List Q4} (v t o : Nat), Tri b → Sp b (v ^^^ (red b v t o).1) (t ^^^ (red b v t o).2.1) (o ^^^ (red b v t o).2.2) ∧ Clear b (red b v t o).1
  | [], v, t, o, _ => ⟨⟨Nat.xor_self _, Nat.xor_self _, Nat.xor_self _⟩, fun q hq => by cases hq⟩
  | q :: b, v, t, o, ⟨⟨k, h1, h2, h3⟩, tr⟩ => by
    have fin : ∀ (v' : Nat) (r : Nat), v'.testBit k = false → ∀ {l o'}, Sp b (v' ^^^ r) l o' → r.testBit k = false := fun v' r hv l o' hs => by
      have := Sp.bit h3 hs
      rw [Nat.testBit_xor, hv, Bool.false_xor] at this
      exact this
    have cl : ∀ r : Nat, r.testBit k = false → Clear b r → Clear (q :: b) r := fun r hr hb p hp j hj => by
      rcases List.mem_cons.mp hp with rfl | hp
      · rw [h1] at hj; rw [← pow_inj hj]; exact hr
      · exact hb p hp j hj
    rw [red]
    split
    · rename_i hz
      rw [h1] at hz
      have hv := and_pow.mp hz
      obtain ⟨s, c⟩ := red_spec v t o tr
      exact ⟨.inl s, cl _ (fin v _ hv s) c⟩
    · rename_i hz
      rw [h1] at hz
      have hv : v.testBit k = true := by
        cases e : v.testBit k with
        | true => rfl
        | false => exact absurd (and_pow.mpr e) hz
      obtain ⟨s, c⟩ := red_spec (v ^^^ q.v) (t ^^^ q.l) (o ^^^ q.o) tr
      have hv' : (v ^^^ q.v).testBit k = false := by rw [Nat.testBit_xor, hv, h2]; rfl
      refine ⟨.inr ?_, cl _ (fin _ _ hv' s) c⟩
      have r : ∀ a c d : Nat, a ^^^ d ^^^ c = a ^^^ c ^^^ d := fun a c d => by rw [Nat.xor_assoc, Nat.xor_comm d c, ← Nat.xor_assoc]
      rw [r v _ q.v, r t _ q.l, r o _ q.o] at s
      exact s
theorem red0 {b : List Q4} (v : Nat) (t : Tri b) : Sp b (v ^^^ (red b v 0 0).1) (red b v 0 0).2.1 (red b v 0 0).2.2 ∧ Clear b (red b v 0 0).1 := by
  have := red_spec v 0 0 t
  rwa [Nat.zero_xor, Nat.zero_xor] at this
/-- what a base makes leaves nothing, and is taken away so -/
theorem red_of {b : List Q4} {v l o : Nat} (t : Tri b) (h : Sp b v l o) : red b v 0 0 = (0, l, o) := by
  obtain ⟨s, c⟩ := red0 v t
  have := h.xor s
  rw [← Nat.xor_assoc, Nat.xor_self, Nat.zero_xor] at this
  obtain ⟨e1, e2, e3⟩ := this.clear t c
  have e2 := xor_eq0 e2
  have e3 := xor_eq0 e3
  rw [show red b v 0 0 = ((red b v 0 0).1, (red b v 0 0).2.1, (red b v 0 0).2.2) from rfl, e1, ← e2, ← e3]
theorem red_zero {b : List Q4} {v : Nat} (t : Tri b) (h : (red b v 0 0).1 = 0) : Sp b v (red b v 0 0).2.1 (red b v 0 0).2.2 := by
  have := (red0 v t).1
  rwa [h, Nat.xor_zero] at this
/-- l has no number beside F's -/
def Sub (l F : Nat) : Prop := ∀ i, l.testBit i = true → F.testBit i = true
theorem Sub.xor {a b F : Nat} (h : Sub a F) (g : Sub b F) : Sub (a ^^^ b) F := fun i hi => by
  rw [Nat.testBit_xor] at hi
  cases e : a.testBit i with
  | true => exact h i e
  | false => rw [e, Bool.false_xor] at hi; exact g i hi
/-- a base of the first cases, F the free ones -/
structure BI (b : List Q4) (V O : List Nat) (F : Nat) : Prop where
  len : V.length = O.length
  tri : Tri b
  el : ∀ q ∈ b, q.v = X q.l 0 V ∧ q.o = X q.l 0 O ∧ Sub q.l F
  all : ∀ i v o : Nat, V[i]? = some v → O[i]? = some o → ∃ l, Sp b v l o
  free : ∀ i : Nat, F.testBit i = true → ∃ v o : Nat, V[i]? = some v ∧ O[i]? = some o ∧ Sp b v (2 ^ i) o
theorem BI.nil : BI [] [] [] 0 := ⟨rfl, trivial, (fun q hq => by cases hq), (fun i v o h => by cases h), fun i h => by rw [Nat.zero_testBit] at h; cases h⟩
section
variable {b : List Q4} {V O : List Nat} {F : Nat}
theorem BI.sp (B : BI b V O F) {v l o : Nat} (h : Sp b v l o) : v = X l 0 V ∧ o = X l 0 O ∧ Sub l F := by
  have : ∀ {c : List Q4} {v l o : Nat}, (∀ q ∈ c, q.v = X q.l 0 V ∧ q.o = X q.l 0 O ∧ Sub q.l F) → Sp c v l o → v = X l 0 V ∧ o = X l 0 O ∧ Sub l F := fun {c} => by
    induction c with
    | nil =>
      intro v l o _ h
      obtain ⟨rfl, rfl, rfl⟩ := h
      exact ⟨(X_zero 0 V).symm, (X_zero 0 O).symm, fun i h => by rw [Nat.zero_testBit] at h; cases h⟩
    | cons q c ih =>
      intro v l o hq h
      rcases h with h | h
      · exact ih (fun p hp => hq p (List.mem_cons_of_mem _ hp)) h
      · obtain ⟨e1, e2, e3⟩ := ih (fun p hp => hq p (List.mem_cons_of_mem _ hp)) h
        obtain ⟨f1, f2, f3⟩ := hq q (List.mem_cons_self ..)
        rw [X_xor, ← f1] at e1
        rw [X_xor, ← f2] at e2
        refine ⟨?_, ?_, ?_⟩
        · have := xor_swap e1; rwa [xx] at this
        · have := xor_swap e2; rwa [xx] at this
        · have := e3.xor f3; rwa [xx] at this
  exact this B.el h
theorem BI.F_lt (B : BI b V O F) {i : Nat} (h : F.testBit i = true) : i < V.length := by
  obtain ⟨v, o, h1, _⟩ := B.free i h
  exact (List.getElem?_eq_some_iff.mp h1).1
theorem BI.lot_lt (B : BI b V O F) {l : Nat} (h : Sub l F) : l < 2 ^ V.length := by
  refine Nat.lt_pow_two_of_testBit l fun i hi => ?_
  cases e : l.testBit i with
  | false => rfl
  | true => have := B.F_lt (h i e); omega
theorem BI.el_more (B : BI b V O F) (v o : Nat) : ∀ q ∈ b, q.v = X q.l 0 (V ++ [v]) ∧ q.o = X q.l 0 (O ++ [o]) ∧ Sub q.l F := fun q hq => by
  obtain ⟨e1, e2, e3⟩ := B.el q hq
  have hl := B.lot_lt e3
  rw [X_low hl, X_low (by rw [← B.len]; exact hl)]
  exact ⟨e1, e2, e3⟩
theorem at_snoc {α : Type} {xs : List α} {x y : α} {i : Nat} (h : (xs ++ [x])[i]? = some y) : xs[i]? = some y ∨ (i = xs.length ∧ y = x) := by
  rcases Nat.lt_or_ge i xs.length with z | z
  · rw [List.getElem?_append_left z] at h; exact .inl h
  · rw [List.getElem?_append_right z] at h
    cases e : i - xs.length with
    | zero => rw [e] at h; cases h; exact .inr ⟨by omega, rfl⟩
    | succ m => rw [e] at h; cases h
theorem at_left {α : Type} {xs ys : List α} {y : α} {i : Nat} (h : xs[i]? = some y) : (xs ++ ys)[i]? = some y := by rw [List.getElem?_append_left (List.getElem?_eq_some_iff.mp h).1]; exact h
theorem Tri.snoc {q : Q4} {k : Nat} : ∀ {b : List Q4}, Tri b → Clear b q.v → q.h = 2 ^ k → q.v.testBit k = true → Tri (b ++ [q])
  | [], _, _, h1, h2 => ⟨⟨k, h1, h2, fun p hp => by cases hp⟩, trivial⟩
  | p :: b, ⟨⟨j, g1, g2, g3⟩, t⟩, hc, h1, h2 => by
    refine ⟨⟨j, g1, g2, fun r hr => ?_⟩, Tri.snoc t (fun r hr => hc r (List.mem_cons_of_mem _ hr)) h1 h2⟩
    rcases List.mem_append.mp hr with hr | hr
    · exact g3 r hr
    · rw [List.mem_singleton.mp hr]; exact hc p (List.mem_cons_self ..) j g1
/-- a case that the ones ahead make, as they have it -/
theorem BI.same (B : BI b V O F) {v o : Nat} (h : (red b v 0 0).1 = 0) (ho : (red b v 0 0).2.2 = o) : BI b (V ++ [v]) (O ++ [o]) F := by
  refine ⟨by rw [List.length_append, List.length_append, B.len]; rfl, B.tri, B.el_more v o, fun i x y hx hy => ?_, fun i hi => ?_⟩
  · rcases at_snoc hx with hx | ⟨e1, rfl⟩
    · rcases at_snoc hy with hy | ⟨e2, rfl⟩
      · exact B.all i x y hx hy
      · have := (List.getElem?_eq_some_iff.mp hx).1; rw [B.len] at this; omega
    · rcases at_snoc hy with hy | ⟨e2, rfl⟩
      · have := (List.getElem?_eq_some_iff.mp hy).1; rw [← B.len] at this; omega
      · have := red_zero B.tri h
        rw [ho] at this
        exact ⟨_, this⟩
  · obtain ⟨x, y, h1, h2, h3⟩ := B.free i hi
    exact ⟨x, y, at_left h1, at_left h2, h3⟩
/-- a free case -/
theorem BI.wide (B : BI b V O F) {v o : Nat} (h : (red b v 0 0).1 ≠ 0) : BI (b ++ [⟨HBt.lowb (red b v 0 0).1, (red b v 0 0).1, (red b v 0 0).2.1 ^^^ 2 ^ V.length, (red b v 0 0).2.2 ^^^ o⟩]) (V ++ [v]) (O ++ [o]) (F ||| 2 ^ V.length) := by
  obtain ⟨s, c⟩ := red0 v B.tri
  generalize hr : red b v 0 0 = r at h s c
  obtain ⟨left, taken, total⟩ := r
  dsimp only at h s c ⊢
  obtain ⟨k, l1, _, l2, _⟩ := HBt.lowb_spec (Nat.pos_of_ne_zero h)
  obtain ⟨e1, e2, e3⟩ := B.sp s
  have ht := B.lot_lt e3
  have mono : ∀ {l : Nat}, Sub l F → Sub l (F ||| 2 ^ V.length) := fun hl i hi => by rw [Nat.testBit_or, hl i hi]; rfl
  have new : Sp (b ++ [⟨HBt.lowb left, left, taken ^^^ 2 ^ V.length, total ^^^ o⟩]) v (2 ^ V.length) o := by
    have := (Sp.more (c := [⟨HBt.lowb left, left, taken ^^^ 2 ^ V.length, total ^^^ o⟩]) s).xor (Sp.last b ⟨HBt.lowb left, left, taken ^^^ 2 ^ V.length, total ^^^ o⟩)
    dsimp only at this
    rw [xx, ← Nat.xor_assoc, Nat.xor_self, Nat.zero_xor, ← Nat.xor_assoc, Nat.xor_self, Nat.zero_xor] at this
    exact this
  refine ⟨by rw [List.length_append, List.length_append, B.len]; rfl, Tri.snoc B.tri c l1 l2, fun q hq => ?_, fun i x y hx hy => ?_, fun i hi => ?_⟩
  · rcases List.mem_append.mp hq with hq | hq
    · obtain ⟨f1, f2, f3⟩ := B.el_more v o q hq
      exact ⟨f1, f2, mono f3⟩
    · rw [List.mem_singleton.mp hq]
      dsimp only
      refine ⟨?_, ?_, ?_⟩
      · rw [X_xor, X_low ht, ← e1, X_top, Nat.xor_assoc, Nat.xor_comm left v, ← Nat.xor_assoc, Nat.xor_self, Nat.zero_xor]
      · have ht2 : taken < 2 ^ O.length := by rw [← B.len]; exact ht
        rw [X_xor, X_low ht2, ← e2, B.len, X_top]
      · refine (mono e3).xor fun i hi => ?_
        rw [Nat.testBit_or, hi, Bool.or_true]
  · rcases at_snoc hx with hx | ⟨e1, rfl⟩
    · rcases at_snoc hy with hy | ⟨e2, rfl⟩
      · obtain ⟨l, hl⟩ := B.all i x y hx hy
        exact ⟨l, hl.more⟩
      · have := (List.getElem?_eq_some_iff.mp hx).1; rw [B.len] at this; omega
    · rcases at_snoc hy with hy | ⟨e2, rfl⟩
      · have := (List.getElem?_eq_some_iff.mp hy).1; rw [← B.len] at this; omega
      · exact ⟨_, new⟩
  · rw [Nat.testBit_or] at hi
    cases e : F.testBit i with
    | true =>
      obtain ⟨x, y, h1, h2, h3⟩ := B.free i e
      exact ⟨x, y, at_left h1, at_left h2, h3.more⟩
    | false =>
      rw [e, Bool.false_or] at hi
      have : V.length = i := by
        by_cases z : V.length = i
        · exact z
        · rw [Nat.testBit_two_pow_of_ne z] at hi; cases hi
      subst this
      refine ⟨v, o, by simp, ?_, new⟩
      rw [B.len]; simp
/-! what follows -/
theorem comb_go {z : Nat} : ∀ {V O L : List Nat} {k : Nat}, V.length = O.length → V.length = L.length → (∀ i v o l : Nat, z.testBit (k + i) = true → V[i]? = some v → O[i]? = some o → L[i]? = some l → Sp b v l o) → Sp b (X z k V) (X z k L) (X z k O)
  | [], [], [], _, _, _, _ => Sp.zero b
  | [], _ :: _, _, _, h, _, _ => by cases h
  | _ :: _, [], _, _, h, _, _ => by cases h
  | [], [], _ :: _, _, _, h, _ => by cases h
  | _ :: _, _ :: _, [], _, _, h, _ => by cases h
  | v :: V, o :: O, l :: L, k, h1, h2, h => by
    rw [X, X, X]
    refine Sp.xor ?_ (comb_go (by simpa using h1) (by simpa using h2) fun i v' o' l' hz a c d => h (i + 1) v' o' l' (by rw [show k + (i + 1) = k + 1 + i by omega]; exact hz) a c d)
    cases e : z.testBit k with
    | true => rw [if_pos rfl, if_pos rfl, if_pos rfl]; exact h 0 v o l e rfl rfl rfl
    | false => rw [if_neg Bool.false_ne_true, if_neg Bool.false_ne_true, if_neg Bool.false_ne_true]; exact Sp.zero b
theorem BI.comb (B : BI b V O F) (z : Nat) : ∃ l, Sp b (X z 0 V) l (X z 0 O) := by
  -- the lots of all cases, chosen one by one
  have : ∀ {V O : List Nat} {k : Nat}, V.length = O.length → (∀ i v o : Nat, V[i]? = some v → O[i]? = some o → ∃ l, Sp b v l o) → ∃ l, Sp b (X z k V) l (X z k O) := fun {V} => by
    induction V with
    | nil => intro O k h1 _; cases O with
      | nil => exact ⟨0, Sp.zero b⟩
      | cons _ _ => cases h1
    | cons v V ih => intro O k h1 h; cases O with
      | nil => cases h1
      | cons o O =>
        obtain ⟨l, hl⟩ := ih (O := O) (k := k + 1) (by simpa using h1) fun i v' o' a c => h (i + 1) v' o' a c
        obtain ⟨m, hm⟩ := h 0 v o rfl rfl
        rw [X, X]
        cases e : z.testBit k with
        | true => rw [if_pos rfl, if_pos rfl]; exact ⟨_, hm.xor hl⟩
        | false => rw [if_neg Bool.false_ne_true, if_neg Bool.false_ne_true]; exact ⟨_, (Sp.zero b).xor hl⟩
  exact this B.len B.all
def pows (n : Nat) : List Nat := (List.range n).map (2 ^ ·)
theorem pows_at {n i l : Nat} (h : (pows n)[i]? = some l) : l = 2 ^ i := by
  unfold pows at h
  rw [List.getElem?_map] at h
  have hi : i < n := by
    rcases Nat.lt_or_ge i n with z | z
    · exact z
    · rw [List.getElem?_eq_none (by simpa using z)] at h; cases h
  rw [List.getElem?_range hi] at h
  exact (Option.some.inj h).symm
theorem pows_succ (n : Nat) : pows (n + 1) = pows n ++ [2 ^ n] := by unfold pows; rw [List.range_succ, List.map_append]; rfl
theorem pows_len (n : Nat) : (pows n).length = n := by unfold pows; rw [List.length_map, List.length_range]
theorem X_pows_bit (z i : Nat) : ∀ n : Nat, (X z 0 (pows n)).testBit i = (decide (i < n) && z.testBit i)
  | 0 => by show (0 : Nat).testBit i = _; rw [Nat.zero_testBit]; rfl
  | n + 1 => by
    rw [pows_succ, X_snoc, pows_len, Nat.testBit_xor, X_pows_bit z i n]
    by_cases e : n = i
    · subst e
      cases h : z.testBit n with
      | true => rw [if_pos rfl, Nat.testBit_two_pow_self]; simp
      | false => rw [if_neg Bool.false_ne_true, Nat.zero_testBit]; simp
    · have h2 : ((if z.testBit n = true then 2 ^ n else 0) : Nat).testBit i = false := by
        split
        · exact Nat.testBit_two_pow_of_ne e
        · exact Nat.zero_testBit i
      rw [h2, Bool.xor_false]
      by_cases hi : i < n
      · rw [decide_eq_true hi, decide_eq_true (by omega : i < n + 1)]
      · rw [decide_eq_false hi, decide_eq_false (by omega : ¬ i < n + 1)]
theorem X_pows {z n : Nat} (h : z < 2 ^ n) : X z 0 (pows n) = z := Nat.eq_of_testBit_eq fun i => by
  rw [X_pows_bit]
  by_cases hi : i < n
  · rw [decide_eq_true hi, Bool.true_and]
  · rw [bit_hi h (by omega), Bool.and_false]
theorem BI.combF (B : BI b V O F) {z : Nat} (h : Sub z F) : Sp b (X z 0 V) z (X z 0 O) := by
  have h1 := comb_go (b := b) (z := z) (V := V) (O := O) (L := pows V.length) (k := 0) B.len (pows_len _).symm fun i v o l hz a c d => by
    rw [Nat.zero_add] at hz
    obtain ⟨x, y, e1, e2, e3⟩ := B.free i (h i hz)
    rw [a] at e1; cases e1
    rw [c] at e2; cases e2
    rw [pows_at d]; exact e3
  rwa [X_pows (B.lot_lt h)] at h1
/-- an even lot of nothing has no outcome -/
theorem BI.possible (B : BI b V O F) {z : Nat} (h : X z 0 V = 0) : X z 0 O = 0 := by
  obtain ⟨l, s⟩ := B.comb z
  rw [h] at s
  exact (s.clear B.tri fun q _ k _ => Nat.zero_testBit k).2.2
/-- free cases alone make nothing -/
theorem BI.indep (B : BI b V O F) {z : Nat} (h : Sub z F) (h0 : X z 0 V = 0) : z = 0 := by
  have s := B.combF h
  rw [h0] at s
  exact (s.clear B.tri fun q _ k _ => Nat.zero_testBit k).2.1
/-- a vector is made of the cases just if the base leaves nothing -/
theorem BI.forced_iff (B : BI b V O F) (v : Nat) : (red b v 0 0).1 = 0 ↔ ∃ z, z < 2 ^ V.length ∧ X z 0 V = v := by
  constructor
  · intro h
    obtain ⟨e1, _, e3⟩ := B.sp (red_zero B.tri h)
    exact ⟨_, B.lot_lt e3, e1.symm⟩
  · rintro ⟨z, _, rfl⟩
    obtain ⟨l, s⟩ := B.comb z
    rw [red_of B.tri s]
theorem BI.forced (B : BI b V O F) {v : Nat} (h : (red b v 0 0).1 = 0) : X (red b v 0 0).2.1 0 V = v ∧ (red b v 0 0).2.1 < 2 ^ V.length ∧ Sub (red b v 0 0).2.1 F ∧ X (red b v 0 0).2.1 0 O = (red b v 0 0).2.2 ∧
    (∀ z, X z 0 V = v → X z 0 O = (red b v 0 0).2.2) ∧ ∀ z, Sub z (red b v 0 0).2.1 → X z 0 V = 0 → z = 0 := by
  have s := red_zero B.tri h
  obtain ⟨e1, e2, e3⟩ := B.sp s
  refine ⟨e1.symm, B.lot_lt e3, e3, e2.symm, fun z hz => ?_, fun z hz h0 => B.indep (fun i hi => e3 i (hz i hi)) h0⟩
  obtain ⟨l, t⟩ := B.comb z
  rw [hz] at t
  rw [red_of B.tri t]
end
/-! the sums of all lots -/
def sumsL (W : List Nat) : List Nat := W.foldl (fun s w => s ++ s.map (· ^^^ w)) [0]
theorem add_xor {n z : Nat} (h : z < 2 ^ n) : 2 ^ n + z = z ^^^ 2 ^ n := by
  have e := Nat.two_pow_add_eq_or_of_lt h 1
  rw [Nat.mul_one] at e
  rw [e]
  refine Nat.eq_of_testBit_eq fun i => ?_
  rw [Nat.testBit_or, Nat.testBit_xor]
  by_cases hi : n = i
  · subst hi; rw [bit_hi h (Nat.le_refl _), Nat.testBit_two_pow_self]; rfl
  · rw [Nat.testBit_two_pow_of_ne hi]; cases z.testBit i <;> rfl
theorem sumsL_snoc (W : List Nat) (w : Nat) : sumsL (W ++ [w]) = sumsL W ++ (sumsL W).map (· ^^^ w) := by unfold sumsL; rw [List.foldl_append]; rfl
theorem list_snoc {α : Type} {P : List α → Prop} (h0 : P []) (hs : ∀ l x, P l → P (l ++ [x])) : ∀ l, P l := fun l => by
  have : ∀ m : List α, P m.reverse := fun m => by
    induction m with
    | nil => exact h0
    | cons x m ih => rw [List.reverse_cons]; exact hs _ _ ih
  have := this l.reverse
  rwa [List.reverse_reverse] at this
theorem sumsL_eq : ∀ W : List Nat, sumsL W = (List.range (2 ^ W.length)).map fun z => X z 0 W := by
  refine list_snoc rfl fun W w ih => ?_
  rw [sumsL_snoc, ih, List.length_append, List.length_singleton, Nat.pow_succ, Nat.mul_two, List.range_add, List.map_append, List.map_map, List.map_map]
  congr 1
  · refine List.map_congr_left fun z hz => ?_
    exact (X_low (List.mem_range.mp hz)).symm
  · refine List.map_congr_left fun z hz => ?_
    have hz := List.mem_range.mp hz
    show X z 0 W ^^^ w = X (2 ^ W.length + z) 0 (W ++ [w])
    rw [add_xor hz, X_xor, X_low hz, X_top]
theorem sumsL_len (W : List Nat) : (sumsL W).length = 2 ^ W.length := by rw [sumsL_eq, List.length_map, List.length_range]
theorem sumsL_getD {W : List Nat} {z : Nat} (h : z < 2 ^ W.length) : (sumsL W).getD z 0 = X z 0 W := by
  rw [sumsL_eq, List.getD_eq_getElem?_getD, List.getElem?_map, List.getElem?_range h]; rfl
theorem X_mod (m z : Nat) (W : List Nat) : X z 0 W % 2 ^ m = X z 0 (W.map (· % 2 ^ m)) := X_map (f := fun x => x % 2 ^ m) (Nat.zero_mod _) (fun a b => Nat.xor_mod_two_pow) z 0 W
theorem X_div (m z : Nat) (W : List Nat) : X z 0 W / 2 ^ m = X z 0 (W.map (· / 2 ^ m)) := X_map (f := fun x => x / 2 ^ m) (Nat.zero_div _) (fun a b => Nat.xor_div_two_pow) z 0 W
theorem X_bit (k z : Nat) : ∀ (j : Nat) (V : List Nat), (∀ v ∈ V, v.testBit k = true) → (X z j V).testBit k = decide (((List.range V.length).countP fun i => z.testBit (j + i)) % 2 = 1)
  | j, [], _ => by rw [X, Nat.zero_testBit]; rfl
  | j, v :: V, h => by
    rw [X, Nat.testBit_xor, X_bit k z (j + 1) V fun w hw => h w (List.mem_cons_of_mem _ hw), List.length_cons, List.range_succ_eq_map, List.countP_cons, List.countP_map]
    have e : (fun i => z.testBit (j + 1 + i)) = ((fun i => z.testBit (j + i)) ∘ Nat.succ) := by funext i; show _ = z.testBit (j + (i + 1)); rw [show j + 1 + i = j + (i + 1) by omega]
    rw [e, Nat.add_zero]
    generalize List.countP ((fun i => z.testBit (j + i)) ∘ Nat.succ) (List.range V.length) = m
    cases hz : z.testBit j with
    | false =>
      rw [if_neg Bool.false_ne_true, if_neg Bool.false_ne_true, Nat.zero_testBit, Bool.false_xor, Nat.add_zero]
    | true =>
      rw [if_pos rfl, if_pos rfl, h v (List.mem_cons_self ..)]
      by_cases hm : m % 2 = 1
      · rw [decide_eq_true hm, decide_eq_false (by omega : ¬ (m + 1) % 2 = 1)]; rfl
      · rw [decide_eq_false hm, decide_eq_true (by omega : (m + 1) % 2 = 1)]; rfl
end HGf
/-! len(o), o an instance with an own __len__ -/
namespace HLn
open PySem PySem.Spec PyProof.Rows L2 HX
def rLenO (C : Addr) (sp : Sp) : List V → Hp → VK → Prop := fun xs H Q => ∃ a dx fs, xs = [.ref a] ∧ H a = some (.ins C dx fs) ∧ sp [.ref a] H (fun v H' => ∃ i : Int, v = .int i ∧ (0 ≤ i ∧ i < 2 ^ 63) ∧ Q v H') E0
section
variable {X : Cx} {K : PySem.W.Frag} {n : Nat} {f C : Addr} {fd : FuncData} {ps : List Str} {sp : Sp}
theorem call_lenO (M : Meth K C "__len__" f) (F : FnOk X.prog X.w X.K X.mg X.base CX0 n f fd ps sp) (hb : Binds X.K fd ps []) (hr : Room (n + 1) X.A) (hK : X.K = K := by rfl) : CallR X (.builtin "len") (rLenO C sp) := by
  cases hK
  intro pins s σ H xs us Q I rx h
  obtain ⟨a, dx, fs, rfl, ha, q⟩ := h
  obtain rfl := Vals.ref1 rx
  obtain ⟨mA, J, _⟩ := ins_get I.hok ha
  obtain ⟨od, J, _⟩ := J.look
  obtain ⟨m, hF⟩ := I.fr
  refine PySem.W.len_K hF I.ok.mod.kin J M.at_ M.fn ?_
  have hl : 1 = ps.length := F.len [.ref a] H _ E0 q
  have r2 : Vals [V.ref a] [Value.ref a] := .cons rfl .nil
  refine wpAny_call (codeAny_mono (F.run X.A.in1 X.stack s H ⟨[.ref a], []⟩ [.ref a] [.ref a] (fun v H' => ∃ i : Int, v = .int i ∧ (0 ≤ i ∧ i < 2 ^ 63) ∧ Q v H') E0 hr.in1 I.env0.in1 (by
    have := hb s [.ref a] I.kIn (by simpa using hl)
    simpa using this) r2 q) fun r s' hq => ?_)
  cases r with
  | error e => exact hq.elim
  | ok fl =>
    cases fl with
    | ret w =>
      obtain ⟨v, H', I', rv, i, ev, hi, qq⟩ := I.after hq
      subst ev
      obtain ⟨u, rfl⟩ := rv
      exact ⟨hi, .int i, H', I'.tok _, ⟨_, rfl⟩, qq⟩
    | next => exact hq.elim
    | brk => exact hq.elim
    | cont => exact hq.elim
end
section
open HD
variable {K : PySem.W.Frag} {c : Wd K} {ρ : List S} {n : Nat} {ds : List I} {Q : QI}
theorem lenO_ {C : Addr} {sp : SpD} {it : I} {fs : List (Str × D)} (e : it.val = .ins C fs) (h : sp [.ins C fs] n (fun r n2 => ∃ i : Int, r = .v (.int i) ∧ (0 ≤ i ∧ i < 2 ^ 63) ∧ Q (.v (.int i)) (frz [it] ρ) n2) fun _ _ _ => False) : GB c ρ n ds (rLenO C (lift K sp)) [it] Q := fun σ H vs xs F hl s' k => by
  have s1 := s'
  obtain ⟨L1, B1, s1⟩ := s1
  match xs, hl, s', s1 with
  | [x], hl, s', s1 =>
    obtain ⟨B', lx, t2, mv, hx⟩ := s1.it1
    obtain ⟨a, dx, fv, rfl, ha, rf⟩ := hx.ins s1.sl e
    obtain ⟨L, B, s2, ra⟩ := items (is := [it]) hl s'
    refine ⟨a, dx, fv, rfl, ha, ?_⟩
    rw [List.map_cons, List.map_nil, e] at ra
    refine ⟨⟨c.g, c.k, c.ns, Mo c (L ++ B), H⟩, n, _, _, _, ⟨rfl, s2.hat, .inl s2.mg, .inl s2.ml, s2.at, ra, fun it m v H2 q2 k2 h2 r2 => ?_, fun C fs n' x H' z => z.elim⟩, h⟩
    obtain ⟨i, rfl, hi, q3⟩ := q2
    have s3 := s2.kept k2 h2
    cases r2
    exact ⟨i, rfl, hi, k _ _ _ _ _ q3 ⟨L, B, s3.pushR (.int i)⟩⟩
/-- tuple(range(n)) -/
theorem tupRg_ {te : TE} (h : GE c ρ n ds te fun it ρ' n' => ∃ m : Nat, it = .v (.int (m : Int)) ∧ m ≤ 100000 ∧ Q (.v (.tup (HBt.rngN m))) ρ' n') : GE c ρ n ds (tTupRg (tRg1 te)) Q := fun σ H vs F s k =>
  h σ H vs _ s fun it ρ' n' v H' ⟨m, e, hm, q⟩ s' => by
    subst e
    obtain ⟨L, B, s2, r⟩ := items (is := [.v (.int (m : Int))]) (ws := [v]) rfl s'
    cases r with
    | cons r0 r1 =>
    cases r0
    refine ⟨(m : Int), rfl, RgOk.of_le (by omega) (by omega) (by omega) (by omega), fun p hp => ?_⟩
    have e1 : rgV 0 (m : Int) = ((List.range m).map fun (i : Nat) => (i : Int)).map V.int := by
      unfold rgV
      rw [show ((m : Int) - 0).toNat = m by omega, List.map_map]
      refine List.map_congr_left fun i _ => ?_
      show V.int (0 + (i : Int)) = V.int (i : Int)
      rw [Int.zero_add]
    have e2 : HBt.rngN m = ((List.range m).map fun (i : Nat) => (i : Int)).map D.int := by
      unfold HBt.rngN
      rw [List.map_map]; rfl
    rw [e1]
    refine k _ _ _ _ _ q ⟨L, B, ?_⟩
    rw [e2]
    exact s2.pushT hp (RA.ofInts _)
end
end HLn
/-! ranks of chosen vectors, and choices of cases -/
namespace HGf
open HBt
/-- two bases with the same heads and vectors -/
def Hv (b c : List Q4) : Prop := b.map (fun q => (q.h, q.v)) = c.map (fun q => (q.h, q.v))
theorem red_hv : ∀ {b c : List Q4} (v t o t' o' : Nat), Hv b c → (red b v t o).1 = (red c v t' o').1
  | [], [], _, _, _, _, _, _ => rfl
  | [], _ :: _, _, _, _, _, _, h => by cases h
  | _ :: _, [], _, _, _, _, _, h => by cases h
  | p :: b, q :: c, v, t, o, t', o', h => by
    have h' : (p.h, p.v) :: b.map (fun q => (q.h, q.v)) = (q.h, q.v) :: c.map (fun q => (q.h, q.v)) := h
    injection h' with h1 h2
    injection h1 with h3 h4
    rw [red, red, h3, h4]
    split
    · exact red_hv v t o t' o' h2
    · exact red_hv _ _ _ _ _ h2
theorem Hv.len {b c : List Q4} (h : Hv b c) : b.length = c.length := by
  have := congrArg List.length h
  rwa [List.length_map, List.length_map] at this
/-- one vector more -/
def stp (b : List Q4) (v : Nat) : List Q4 := if (red b v 0 0).1 = 0 then b else b ++ [⟨lowb (red b v 0 0).1, (red b v 0 0).1, 0, 0⟩]
theorem red_0 : ∀ (b : List Q4) (t o : Nat), (red b 0 t o).1 = 0
  | [], _, _ => rfl
  | q :: b, t, o => by rw [red, Nat.zero_and, if_pos rfl]; exact red_0 b t o
theorem stp_0 (b : List Q4) : stp b 0 = b := by rw [stp, if_pos (red_0 b 0 0)]
theorem X_zeros (z : Nat) : ∀ (k : Nat) (O : List Nat), (∀ o ∈ O, o = 0) → X z k O = 0
  | _, [], _ => rfl
  | k, o :: O, h => by
    rw [X, X_zeros z (k + 1) O fun o ho => h o (List.mem_cons_of_mem _ ho), h o (List.mem_cons_self ..)]
    split <;> rfl
theorem count_or (F n m : Nat) (hm : m ≤ n) : ((List.range m).countP fun i => (F ||| 2 ^ n).testBit i) = (List.range m).countP fun i => F.testBit i := by
  refine List.countP_congr fun i hi => ?_
  have hi := List.mem_range.mp hi
  rw [Nat.testBit_or, Nat.testBit_two_pow_of_ne (by omega), Bool.or_false]
theorem rk_inv : ∀ M : List Nat, ∃ (c : List Q4) (F : Nat), Hv (M.foldl stp []) c ∧ BI c M (M.map fun _ => 0) F ∧ (M.foldl stp []).length = (List.range M.length).countP fun i => F.testBit i := by
  refine list_snoc ⟨[], 0, rfl, BI.nil, rfl⟩ fun M v ⟨c, F, h1, B, h3⟩ => ?_
  rw [List.foldl_append, List.foldl_cons, List.foldl_nil, List.map_append, List.map_cons, List.map_nil, List.length_append, List.length_singleton, List.range_succ, stp, red_hv v 0 0 0 0 h1]
  generalize hb : M.foldl stp [] = b at h1 h3 ⊢
  have z0 : ∀ o ∈ M.map (fun _ => 0), o = 0 := fun o ho => by obtain ⟨_, _, rfl⟩ := List.mem_map.mp ho; rfl
  by_cases h : (red c v 0 0).1 = 0
  · rw [if_pos h]
    have s := red_zero B.tri h
    have ho : (red c v 0 0).2.2 = 0 := by
      rw [(B.sp s).2.1]
      exact X_zeros _ _ _ z0
    refine ⟨c, F, h1, B.same h ho, ?_⟩
    rw [List.countP_append, List.countP_singleton, h3]
    have : F.testBit M.length = false := by
      cases hF : F.testBit M.length with
      | false => rfl
      | true => exact absurd (B.F_lt hF) (Nat.lt_irrefl _)
    rw [this]; rfl
  · rw [if_neg h]
    refine ⟨_, _, ?_, B.wide h, ?_⟩
    · rw [Hv, List.map_append, List.map_append, h1]
      rfl
    · rw [List.length_append, List.countP_append, List.countP_singleton, h3, count_or F M.length M.length (Nat.le_refl _), Nat.testBit_or, Nat.testBit_two_pow_self, Bool.or_true]
      rfl
/-- the vectors of a lot, and nothing elsewhere -/
def msk (lot : Nat) : Nat → List Nat → List Nat
  | _, [] => []
  | k, v :: vs => (if lot.testBit k then v else 0) :: msk lot (k + 1) vs
theorem msk_len (lot : Nat) : ∀ (k : Nat) (V : List Nat), (msk lot k V).length = V.length
  | _, [] => rfl
  | k, v :: vs => by rw [msk, List.length_cons, List.length_cons, msk_len]
theorem X_msk (lot z : Nat) : ∀ (k : Nat) (V : List Nat), X z k (msk lot k V) = X (z &&& lot) k V
  | _, [] => rfl
  | k, v :: vs => by
    rw [msk, X, X, X_msk lot z (k + 1) vs, Nat.testBit_and]
    cases z.testBit k <;> cases lot.testBit k <;> rfl
theorem msk_at (lot : Nat) : ∀ (k : Nat) (V : List Nat) (i : Nat), (msk lot k V)[i]? = V[i]?.map fun v => if lot.testBit (k + i) then v else 0
  | _, [], i => by simp [msk]
  | k, v :: vs, 0 => by simp [msk]
  | k, v :: vs, i + 1 => by
    rw [msk, List.getElem?_cons_succ, msk_at lot (k + 1) vs i, List.getElem?_cons_succ]
    rw [show k + 1 + i = k + (i + 1) by omega]
/-- a walk over a lot's numbers is a walk over its masked vectors -/
theorem fold_lot {β : Type} (f : β → Nat → β) (h0 : ∀ b, f b 0 = b) (lot : Nat) : ∀ (V : List Nat) (k : Nat) (b : β), (((List.range' k V.length).filter fun i => lot.testBit i).map fun i => V.getD (i - k) 0).foldl f b = (msk lot k V).foldl f b
  | [], _, _ => rfl
  | v :: V, k, b => by
    rw [List.length_cons, List.range'_succ, msk, List.foldl_cons, List.filter_cons]
    have e : ∀ (l : List Nat), (∀ i ∈ l, k + 1 ≤ i) → (l.map fun i => (v :: V).getD (i - k) 0) = l.map fun i => V.getD (i - (k + 1)) 0 := fun l hl => List.map_congr_left fun i hi => by
      have := hl i hi
      rw [show i - k = (i - (k + 1)) + 1 by omega]
      rfl
    have hm : ∀ i ∈ (List.range' (k + 1) V.length).filter fun i => lot.testBit i, k + 1 ≤ i := fun i hi => (List.mem_range'_1.mp (List.mem_filter.mp hi).1).1
    cases hk : lot.testBit k with
    | false => 
      rw [if_neg (by decide), if_neg (by decide), h0, e _ hm]
      exact fold_lot f h0 lot V (k + 1) b
    | true =>
      rw [if_pos rfl, if_pos rfl, List.map_cons, List.foldl_cons, Nat.sub_self, e _ hm]
      exact fold_lot f h0 lot V (k + 1) _
theorem nums_range {lot n : Nat} (h : lot < 2 ^ n) (hn : n ≤ 64) : nums lot = (List.range n).filter fun i => lot.testBit i := by
  unfold nums
  exact range_filter hn fun i hi => Nat.testBit_lt_two_pow (Nat.lt_of_lt_of_le h (Nat.pow_le_pow_right (by decide) hi))
theorem fold_nums {β : Type} (f : β → Nat → β) (h0 : ∀ b, f b 0 = b) {lot : Nat} {V : List Nat} (h : lot < 2 ^ V.length) (hn : V.length ≤ 64) (b : β) : ((nums lot).map fun i => V.getD i 0).foldl f b = (msk lot 0 V).foldl f b := by
  rw [nums_range h hn, List.range_eq_range']
  exact fold_lot f h0 lot V 0 b
theorem X_foldl (z : Nat) : ∀ (V : List Nat) (k a : Nat), (msk z k V).foldl (· ^^^ ·) a = a ^^^ X z k V
  | [], _, a => by rw [msk, List.foldl_nil, X, Nat.xor_zero]
  | v :: V, k, a => by rw [msk, List.foldl_cons, X_foldl z V (k + 1), X, Nat.xor_assoc]
theorem fold_X {lot : Nat} {V : List Nat} (h : lot < 2 ^ V.length) (hn : V.length ≤ 64) : ((nums lot).map fun i => V.getD i 0).foldl (· ^^^ ·) 0 = X lot 0 V := by
  rw [fold_nums _ (fun b => Nat.xor_zero b) h hn, X_foldl, Nat.zero_xor]
/-! counting -/
theorem count_sub {α : Type} {p q : α → Bool} : ∀ {l : List α}, (∀ x ∈ l, p x = true → q x = true) → l.countP q = l.countP p + l.countP fun x => q x && !p x
  | [], _ => rfl
  | x :: l, h => by
    rw [List.countP_cons, List.countP_cons, List.countP_cons, count_sub fun y hy => h y (List.mem_cons_of_mem _ hy)]
    have := h x (List.mem_cons_self ..)
    cases hp : p x <;> cases hq : q x
    · simp
    · simp; omega
    · rw [hp, hq] at this; exact absurd (this rfl) (by decide)
    · simp; omega
theorem count_zero {r : Nat → Bool} {n : Nat} : ((List.range n).countP r) = 0 ↔ ∀ i, i < n → r i = false := by
  rw [List.countP_eq_zero]
  constructor
  · intro h i hi
    have := h i (List.mem_range.mpr hi)
    cases hr : r i with
    | false => rfl
    | true => exact absurd hr this
  · intro h i hi
    rw [h i (List.mem_range.mp hi)]
    decide
theorem count_one {r : Nat → Bool} : ∀ {n : Nat}, ((List.range n).countP r) = 1 ↔ ∃ j, j < n ∧ r j = true ∧ ∀ i, i < n → r i = true → i = j
  | 0 => by
    constructor
    · intro h; cases h
    · rintro ⟨j, hj, _⟩; omega
  | n + 1 => by
    rw [List.range_succ, List.countP_append, List.countP_singleton]
    cases hr : r n with
    | false =>
      rw [if_neg (by decide), Nat.add_zero, count_one]
      constructor
      · rintro ⟨j, h1, h2, h3⟩
        refine ⟨j, by omega, h2, fun i hi h => h3 i ?_ h⟩
        have : i ≠ n := fun e => by rw [e, hr] at h; cases h
        omega
      · rintro ⟨j, h1, h2, h3⟩
        have : j ≠ n := fun e => by rw [e, hr] at h2; cases h2
        exact ⟨j, by omega, h2, fun i hi h => h3 i (by omega) h⟩
    | true =>
      rw [if_pos rfl]
      constructor
      · intro h
        have h0 := count_zero.mp (show (List.range n).countP r = 0 by omega)
        refine ⟨n, Nat.lt_succ_self n, hr, fun i hi h => ?_⟩
        by_cases e : i = n
        · exact e
        · rw [h0 i (by omega)] at h; cases h
      · rintro ⟨j, h1, h2, h3⟩
        have e := h3 n (Nat.lt_succ_self n) hr
        have h0 := count_zero.mpr (show ∀ i, i < n → r i = false from fun i hi => by
          cases h : r i with
          | false => rfl
          | true => have := h3 i (by omega) h; omega)
        omega
theorem sub_of_and {z lot : Nat} (h : z &&& lot = z) : Sub z lot := fun i hi => by
  rw [← h, Nat.testBit_and] at hi
  exact (Bool.and_eq_true_iff.mp hi).2
theorem and_of_sub {z lot : Nat} (h : Sub z lot) : z &&& lot = z := Nat.eq_of_testBit_eq fun i => by
  rw [Nat.testBit_and]
  have := h i
  cases hz : z.testBit i with
  | false => rfl
  | true => rw [this hz]; rfl
theorem sub_le {z lot : Nat} (h : Sub z lot) : z ≤ lot := by
  rw [← and_of_sub h]
  exact Nat.and_le_right
theorem sub_pow {i lot : Nat} (h : lot.testBit i = true) : Sub (2 ^ i) lot := fun j hj => by
  rw [Nat.testBit_two_pow] at hj
  rw [← of_decide_eq_true hj]; exact h
/-- the rank of a lot of vectors is one less than their number just if no other lot of them makes nothing -/
theorem rank_one {V : List Nat} {lot : Nat} (hl : lot < 2 ^ V.length) (hX : X lot 0 V = 0) (hn : V.length ≤ 64) : ((nums lot).map fun i => V.getD i 0).foldl stp [] |>.length |> fun r => (r + 1 = (nums lot).length ↔ lot ≠ 0 ∧ ∀ z, Sub z lot → X z 0 V = 0 → z = 0 ∨ z = lot) := by
  show ((((nums lot).map fun i => V.getD i 0).foldl stp []).length + 1 = (nums lot).length ↔ _)
  rw [fold_nums stp stp_0 hl hn]
  obtain ⟨c, F, h1, B, h3⟩ := rk_inv (msk lot 0 V)
  rw [msk_len] at h3
  rw [h3, nums_count hl hn]
  have hz : ∀ z, Sub z lot → X z 0 (msk lot 0 V) = X z 0 V := fun z h => by rw [X_msk, and_of_sub h]
  have hF : Sub F lot := fun i hi => by
    cases hl2 : lot.testBit i with
    | true => rfl
    | false =>
      obtain ⟨v, o, e1, e2, s⟩ := B.free i hi
      rw [msk_at, Nat.zero_add, hl2] at e1
      have e3 := (B.sp s).1
      have : v = 0 := by
        cases hV : V[i]? with
        | none => rw [hV] at e1; cases e1
        | some x => rw [hV] at e1; injection e1 with e1; exact e1.symm
      have := B.indep (z := 2 ^ i) (sub_pow hi) (by rw [← e3, this])
      have := Nat.two_pow_pos i
      omega
  rw [count_sub (p := fun i => F.testBit i) (q := fun i => lot.testBit i) fun i _ h => hF i h]
  have hind : ∀ z, Sub z F → X z 0 V = 0 → z = 0 := fun z h e => B.indep h (by rw [hz z fun i hi => hF i (h i hi)]; exact e)
  constructor
  · intro h
    obtain ⟨j, hj1, hj2, hj3⟩ := count_one.mp (show (List.range V.length).countP (fun i => lot.testBit i && !F.testBit i) = 1 by omega)
    have hj4 : lot.testBit j = true ∧ F.testBit j = false := by
      obtain ⟨a, b⟩ := Bool.and_eq_true_iff.mp hj2
      exact ⟨a, by simpa using b⟩
    refine ⟨fun e => (by rw [e, Nat.zero_testBit] at hj4; exact absurd hj4.1 (by decide)), fun z hs h0 => ?_⟩
    have key : ∀ y, Sub y lot → y.testBit j = false → Sub y F := fun y hy hb i hi => by
      cases hFi : F.testBit i with
      | true => rfl
      | false =>
        have hli := hy i hi
        have := hj3 i (Decidable.byContradiction fun hge => by rw [bit_hi hl (by omega)] at hli; cases hli) (by rw [hli, hFi]; rfl)
        rw [this, hb] at hi; cases hi
    cases hb : z.testBit j with
    | false => exact .inl (hind z (key z hs hb) h0)
    | true =>
      refine .inr (xor_eq0 (hind _ (key (z ^^^ lot) (Sub.xor hs fun _ h => h) ?_) ?_))
      · rw [Nat.testBit_xor, hb, hj4.1]; rfl
      · rw [X_xor, h0, hX]; rfl
  · rintro ⟨hne, hall⟩
    have : (List.range V.length).countP (fun i => lot.testBit i && !F.testBit i) = 1 := by
      refine count_one.mpr ?_
      have hex : ∃ j, lot.testBit j = true ∧ F.testBit j = false := Classical.byContradiction fun hno => by
        have : Sub lot F := fun i hi => by
          cases hFi : F.testBit i with
          | true => rfl
          | false => exact absurd ⟨i, hi, hFi⟩ hno
        exact hne (hind lot this hX)
      obtain ⟨j, hj1, hj2⟩ := hex
      refine ⟨j, Decidable.byContradiction fun hge => (by rw [bit_hi hl (by omega)] at hj1; cases hj1), by rw [hj1, hj2]; rfl, fun i hi hr => ?_⟩
      obtain ⟨hi1, hi2⟩ := Bool.and_eq_true_iff.mp hr
      have hi2 : F.testBit i = false := by simpa using hi2
      refine Decidable.byContradiction fun hij => ?_
      have hv : V[i]? = some V[i] := List.getElem?_eq_getElem hi
      have hm : (msk lot 0 V)[i]? = some V[i] := by rw [msk_at, hv, Nat.zero_add, hi1]; rfl
      have ho : ((msk lot 0 V).map fun _ => 0)[i]? = some 0 := by rw [List.getElem?_map, hm]; rfl
      obtain ⟨l, s⟩ := B.all i _ _ hm ho
      obtain ⟨e1, _, e3⟩ := B.sp s
      have hs : Sub l lot := fun k hk => hF k (e3 k hk)
      have hli : l.testBit i = false := by
        cases h : l.testBit i with
        | false => rfl
        | true => rw [e3 i h] at hi2; cases hi2
      have hlj : l.testBit j = false := by
        cases h : l.testBit j with
        | false => rfl
        | true => rw [e3 j h] at hj2; cases hj2
      have h0 : X (l ^^^ 2 ^ i) 0 V = 0 := by
        rw [X_xor, ← hz l hs, ← e1, X_pow (Nat.zero_le _) (by rw [Nat.sub_zero]; exact hv), Nat.xor_self]
      rcases hall _ (Sub.xor hs (sub_pow hi1)) h0 with h | h
      · have := congrArg (fun x => x.testBit i) h
        rw [show (l ^^^ 2 ^ i).testBit i = true by rw [Nat.testBit_xor, hli, Nat.testBit_two_pow_self]; rfl, Nat.zero_testBit] at this
        cases this
      · have := congrArg (fun x => x.testBit j) h
        rw [show (l ^^^ 2 ^ i).testBit j = false by rw [Nat.testBit_xor, hlj, Nat.testBit_two_pow_of_ne hij]; rfl, hj1] at this
        cases this
    omega
/-! choices -/
/-- the lot of numbers E that a lot of E's places names -/
def spread (E : List Nat) (y : Nat) : Nat := X y 0 (E.map (2 ^ ·))
theorem spread_xor (E : List Nat) (a b : Nat) : spread E (a ^^^ b) = spread E a ^^^ spread E b := X_xor a b 0 _
theorem X_spread {V E : List Nat} (hE : ∀ i ∈ E, i < V.length) (y : Nat) : X (spread E y) 0 V = X y 0 (E.map fun i => V.getD i 0) := by
  rw [spread, X_map (f := fun l => X l 0 V) (X_zero 0 V) (fun a b => X_xor a b 0 V) y 0, List.map_map]
  congr 1
  refine List.map_congr_left fun i hi => ?_
  have h := hE i hi
  show X (2 ^ i) 0 V = _
  rw [X_pow (v := V[i]) (Nat.zero_le _) (by rw [Nat.sub_zero]; exact List.getElem?_eq_getElem h), List.getD_eq_getElem?_getD, List.getElem?_eq_getElem h]
  rfl
theorem Xpow_bit (y j : Nat) : ∀ (E : List Nat) (k : Nat), E.Nodup → ((X y k (E.map (2 ^ ·))).testBit j = true ↔ ∃ i, E[i]? = some j ∧ y.testBit (k + i) = true)
  | [], k, _ => by
    rw [List.map_nil, X, Nat.zero_testBit]
    constructor
    · intro h; cases h
    · rintro ⟨i, h, _⟩; cases h
  | e :: E, k, hn => by
    obtain ⟨h1, h2⟩ := List.nodup_cons.mp hn
    rw [List.map_cons, X, Nat.testBit_xor]
    have ih := Xpow_bit y j E (k + 1) h2
    by_cases hj : e = j
    · have hno : (X y (k + 1) (E.map (2 ^ ·))).testBit j = false := by
        cases hx : (X y (k + 1) (E.map (2 ^ ·))).testBit j with
        | false => rfl
        | true =>
          obtain ⟨i, hi, _⟩ := ih.mp hx
          rw [hj] at h1
          exact absurd (List.mem_of_getElem? hi) h1
      rw [hno, Bool.xor_false]
      constructor
      · intro h
        cases hy : y.testBit k with
        | true => exact ⟨0, by rw [hj]; rfl, hy⟩
        | false => rw [hy, if_neg (by decide), Nat.zero_testBit] at h; cases h
      · rintro ⟨i, hi, hy⟩
        cases i with
        | zero => rw [Nat.add_zero] at hy; rw [hy, if_pos rfl, hj, Nat.testBit_two_pow_self]
        | succ i => rw [List.getElem?_cons_succ, ] at hi; rw [hj] at h1; exact absurd (List.mem_of_getElem? hi) h1
    · have h0 : (if y.testBit k = true then 2 ^ e else 0).testBit j = false := by
        split
        · exact Nat.testBit_two_pow_of_ne hj
        · exact Nat.zero_testBit j
      rw [h0, Bool.false_xor, ih]
      constructor
      · rintro ⟨i, hi, hy⟩; exact ⟨i + 1, hi, by rw [← hy]; congr 1; omega⟩
      · rintro ⟨i, hi, hy⟩
        cases i with
        | zero => injection hi with hi; exact absurd hi hj
        | succ i => exact ⟨i, hi, by rw [← hy]; congr 1; omega⟩
theorem spread_bit {E : List Nat} (hn : E.Nodup) (y j : Nat) : (spread E y).testBit j = true ↔ ∃ i, E[i]? = some j ∧ y.testBit i = true := by
  rw [spread, Xpow_bit y j E 0 hn]
  constructor
  · rintro ⟨i, h, h2⟩; exact ⟨i, h, by rwa [Nat.zero_add] at h2⟩
  · rintro ⟨i, h, h2⟩; exact ⟨i, h, by rwa [Nat.zero_add]⟩
theorem spread_zero {E : List Nat} (hn : E.Nodup) {y : Nat} (hy : y < 2 ^ E.length) (h : spread E y = 0) : y = 0 := Nat.eq_of_testBit_eq fun i => by
  rw [Nat.zero_testBit]
  cases hi : y.testBit i with
  | false => rfl
  | true =>
    have hl : i < E.length := Decidable.byContradiction fun hge => by rw [bit_hi hy (by omega)] at hi; cases hi
    have := (spread_bit hn y E[i]).mpr ⟨i, List.getElem?_eq_getElem hl, hi⟩
    rw [h, Nat.zero_testBit] at this
    cases this
theorem spread_sub {E : List Nat} (hn : E.Nodup) {lot : Nat} (hE : ∀ i ∈ E, lot.testBit i = true) (y : Nat) : Sub (spread E y) lot := fun j hj => by
  obtain ⟨i, hi, _⟩ := (spread_bit hn y j).mp hj
  exact hE j (List.mem_of_getElem? hi)
theorem spread_full {E : List Nat} (hn : E.Nodup) {lot : Nat} (hE : ∀ i, lot.testBit i = true ↔ i ∈ E) : spread E (2 ^ E.length - 1) = lot := Nat.eq_of_testBit_eq fun j => by
  have h := spread_bit hn (2 ^ E.length - 1) j
  cases hj : lot.testBit j with
  | true =>
    obtain ⟨i, hi⟩ := List.getElem?_of_mem ((hE j).mp hj)
    exact h.mpr ⟨i, hi, by rw [Nat.testBit_two_pow_sub_one]; exact decide_eq_true (List.getElem?_eq_some_iff.mp hi).1⟩
  | false =>
    cases hs : (spread E (2 ^ E.length - 1)).testBit j with
    | false => rfl
    | true =>
      obtain ⟨i, hi, _⟩ := h.mp hs
      rw [(hE j).mpr (List.mem_of_getElem? hi)] at hj; cases hj
end HGf
/-! comprehensions with two clauses -/
namespace HD
open PySem PySem.Spec PyProof.Rows L2 HX
section
variable {K : PySem.W.Frag} {c : Wd K} {ρ : List S} {n : Nat} {ds : List I} {L B : List Addr} {σ : L2.St} {H H' : Hp} {vs : List V} {v : V} {p : Addr}
theorem wipe_at : ∀ {own : List Nat} {σ : L2.St} {m : Nat}, m ∈ own → m < σ.length → (wipe σ own)[m]? = some none
  | [], _, _, h, _ => by cases h
  | k :: is, σ, m, hm, hl => by
    unfold wipe
    by_cases ek : k = m
    · subst ek; rw [List.getElem?_set_self (by rw [wipe_len]; exact hl)]
    · rw [List.getElem?_set_ne ek]
      refine wipe_at ?_ hl
      rcases List.mem_cons.mp hm with z | z
      · exact absurd z.symm ek
      · exact z
theorem wipe_sub {own1 own : List Nat} (hv : ∀ i ∈ own1, i ∈ own) (σ : L2.St) : wipe (wipe σ own1) own = wipe σ own := by
  apply List.ext_getElem?
  intro m
  by_cases hm : m ∈ own
  · by_cases hl : m < σ.length
    · rw [wipe_at hm (by rw [wipe_len]; exact hl), wipe_at hm hl]
    · rw [List.getElem?_eq_none (by rw [wipe_len, wipe_len]; omega), List.getElem?_eq_none (by rw [wipe_len]; omega)]
  · rw [wipe_ne hm, wipe_ne hm, wipe_ne fun z => hm (hv m z)]
theorem GI.mono {wi : TI} {Q Q' : List I → List D → QS} (h : GI c ρ n ds wi Q) (m : ∀ pin xs ρ n, Q pin xs ρ n → Q' pin xs ρ n) : GI c ρ n ds wi Q' := fun σ H vs F s k => h σ H vs F s fun pin xs ρ n ws J H q => k pin xs ρ n ws J H (m _ _ _ _ q)
theorem CpD.mono {own : List Nat} {g : TG} {tt : TT} {te : TE} {Q Q' : List D → QS} (m : ∀ ys ρ n, Q ys ρ n → Q' ys ρ n) : ∀ {xs ys : List D} {ρ : List S} {n : Nat}, CpD c ds own g tt te Q xs ys ρ n → CpD c ds own g tt te Q' xs ys ρ n
  | [], ys, ρ, n, h => m _ _ _ h
  | x :: xs, ys, ρ, n, h => by
    refine GW.mono (show GW _ _ _ _ _ _ _ _ from h) fun ρ1 n1 q => q.mono fun b ρ2 n2 q2 => ?_
    cases b with
    | true =>
      rw [if_pos rfl] at q2 ⊢
      exact q2.mono fun it ρ3 n3 q3 => ⟨q3.1, CpD.mono m q3.2⟩
    | false =>
      rw [if_neg Bool.false_ne_true] at q2 ⊢
      exact CpD.mono m q2
/-- the turns of the first clause; the second clause's items are walked in each -/
def CpD2 (c : Wd K) (ds : List I) (own own1 : List Nat) (g : TG) (tt : TT) (wi1 : TI) (g1 : TG) (tt1 : TT) (te : TE) (Q : List D → QS) : List D → List D → QS
  | [], ys => fun ρ n => Q ys ρ n
  | x :: xs, ys => fun ρ n => GW c ρ n (.o (.lst ys) :: ds) own g (.v x) fun ρ1 n1 => GT c ρ1 n1 (.o (.lst ys) :: ds) tt fun b ρ2 n2 =>
    if b = true then GI c ρ2 n2 (.o (.lst ys) :: ds) wi1 fun pin1 zs ρ3 n3 => cleanO own1 (pin1 ++ ds) = true ∧ CpD c (pin1 ++ ds) own1 g1 tt1 te (fun ys' ρ4 n4 => CpD2 c ds own own1 g tt wi1 g1 tt1 te Q xs ys' (unset own ρ4) n4) zs ys (unset own1 ρ3) n3
    else CpD2 c ds own own1 g tt wi1 g1 tt1 te Q xs ys (unset own ρ2) n2
theorem cleanO_cons {own : List Nat} {ys : List D} {ds : List I} (h : cleanO own ds = true) : cleanO own (.o (.lst ys) :: ds) = true := by
  unfold cleanO
  rw [List.all_cons]
  exact h
theorem lc2_ {wi wi1 : TI} {g g1 : TG} {tt tt1 : TT} {te : TE} {own own1 : List Nat} {Q : QI} (hv : (own1.all fun i => own.contains i) = true)
    (h : GI c ρ n ds wi fun pin xs ρ' n' => cleanO own (pin ++ ds) = true ∧ CpD2 c (pin ++ ds) own own1 g tt wi1 g1 tt1 te (fun ys ρ2 n2 => Q (.o (.lst ys)) ρ2 n2) xs [] (HD.unset own ρ') n') : GE c ρ n ds (tLc2 wi g tt wi1 g1 tt1 te own own1) Q := fun σ H vs F s k =>
  h σ H vs _ s fun pin xs ρ' n' ws J H' ⟨hc, q⟩ hl s' w => by
    have hv : ∀ i ∈ own1, i ∈ own := fun i hi => by
      have := List.all_eq_true.mp hv i hi
      simpa using this
    have w := w ds vs
    intro D hD
    obtain ⟨L, B, s'⟩ := s'
    have s1 : St c ρ' n' (.o (.lst []) :: (pin ++ ds)) σ (upd H' D (.lst [])) (.ref D :: (ws ++ vs)) := ⟨L, _, s'.pushO hD .nil⟩
    have hc1 : ∀ ys, cleanO own (.o (.lst ys) :: (pin ++ ds)) = true := fun ys => cleanO_cons hc
    have s2 := St.unset (hc1 []) s1
    refine ⟨fun i m H => m = xs.length - i ∧ i ≤ xs.length ∧ ∃ ys ρ0 n, CpD2 c (pin ++ ds) own own1 g tt wi1 g1 tt1 te (fun ys ρ2 n2 => Q (.o (.lst ys)) ρ2 n2) (xs.drop i) ys (HD.unset own ρ0) n ∧ St c (HD.unset own ρ0) n (.o (.lst ys) :: (pin ++ ds)) (wipe σ own) H (.ref D :: (ws ++ vs)), ⟨xs.length, rfl, Nat.zero_le _, [], ρ', n', q, s2⟩, ?_⟩
    rintro i m H ⟨rfl, hi, ys, ρ0, n, f, s⟩
    by_cases hlt : i < xs.length
    · refine .inr ⟨w.go i _ n [.o (.lst ys)] _ H [.ref D] hlt rfl s, fun H => ∃ ys ρ0 n, CpD2 c (pin ++ ds) own own1 g tt wi1 g1 tt1 te (fun ys ρ2 n2 => Q (.o (.lst ys)) ρ2 n2) (xs.drop (i + 1)) ys (HD.unset own ρ0) n ∧ St c (HD.unset own ρ0) n (.o (.lst ys) :: (pin ++ ds)) (wipe σ own) H (.ref D :: (ws ++ vs)), fun H' z => ⟨_, by omega, rfl, hlt, z⟩, fun x H' y => ?_⟩
      have s3 := w.yl i xs[i] _ n [.o (.lst ys)] _ H [.ref D] x H' (List.getElem?_eq_getElem hlt) rfl s y
      rw [List.drop_eq_getElem_cons hlt] at f
      refine f _ H' _ x _ s3 fun ρ1 n1 σ1 H1 q1 w1 s4 => ?_
      have w2 : wipe σ1 own = wipe σ own := by rw [w1]; exact wipe_sub (fun _ h => h) σ
      refine ⟨w2, q1 σ1 H1 _ _ s4 fun b ρ2 n2 H2 q2 s5 => ?_⟩
      cases b with
      | true =>
        rw [if_pos rfl] at q2 ⊢
        refine q2 σ1 H2 _ _ s5 fun pin1 zs ρ3 n3 ws1 J1 H3 ⟨hc3, q3⟩ hl1 s6 v1 => ?_
        have v1 := v1 (pin ++ ds) (ws ++ vs)
        have hc4 : ∀ ys, cleanO own1 (.o (.lst ys) :: (pin1 ++ (pin ++ ds))) = true := fun ys => cleanO_cons hc3
        have s7 := St.unset (own := own1) (hc4 _) (St.rot' hl1 s6)
        refine ⟨fun j m H => m = zs.length - j ∧ j ≤ zs.length ∧ ∃ ys ρ0 n, CpD c (pin1 ++ (pin ++ ds)) own1 g1 tt1 te (fun ys' ρ4 n4 => CpD2 c (pin ++ ds) own own1 g tt wi1 g1 tt1 te (fun ys ρ2 n2 => Q (.o (.lst ys)) ρ2 n2) (xs.drop (i + 1)) ys' (HD.unset own ρ4) n4) (zs.drop j) ys (HD.unset own1 ρ0) n ∧ St c (HD.unset own1 ρ0) n (.o (.lst ys) :: (pin1 ++ (pin ++ ds))) (wipe σ1 own1) H (.ref D :: (ws1 ++ (ws ++ vs))), ⟨zs.length, rfl, Nat.zero_le _, ys, ρ3, n3, q3, s7⟩, ?_⟩
        rintro j m H4 ⟨rfl, hj, ys4, ρ4, n4, f4, s8⟩
        by_cases hjt : j < zs.length
        · refine .inr ⟨v1.go j _ n4 [.o (.lst ys4)] _ H4 [.ref D] hjt rfl s8, fun H => ∃ ys ρ0 n, CpD c (pin1 ++ (pin ++ ds)) own1 g1 tt1 te (fun ys' ρ4 n4 => CpD2 c (pin ++ ds) own own1 g tt wi1 g1 tt1 te (fun ys ρ2 n2 => Q (.o (.lst ys)) ρ2 n2) (xs.drop (i + 1)) ys' (HD.unset own ρ4) n4) (zs.drop (j + 1)) ys (HD.unset own1 ρ0) n ∧ St c (HD.unset own1 ρ0) n (.o (.lst ys) :: (pin1 ++ (pin ++ ds))) (wipe σ1 own1) H (.ref D :: (ws1 ++ (ws ++ vs))), fun H' z => ⟨_, by omega, rfl, hjt, z⟩, fun x H5 y => ?_⟩
          have s9 := v1.yl j zs[j] _ n4 [.o (.lst ys4)] _ H4 [.ref D] x H5 (List.getElem?_eq_getElem hjt) rfl s8 y
          rw [List.drop_eq_getElem_cons hjt] at f4
          refine f4 _ H5 _ x _ s9 fun ρ5 n5 σ5 H5 q5 w5 s10 => ?_
          have w6 : wipe σ5 own1 = wipe σ1 own1 := by rw [w5]; exact wipe_sub (fun _ h => h) σ1
          refine ⟨w6, q5 σ5 H5 _ _ s10 fun b ρ6 n6 H6 q6 s11 => ?_⟩
          cases b with
          | true =>
            rw [if_pos rfl] at q6 ⊢
            refine q6 σ5 H6 _ _ s11 fun it ρ7 n7 v7 H7 q7 s12 => ?_
            obtain ⟨a, acc, ea, h1, h2, s13⟩ := St.acc s12
            cases ea
            have hb := Nat.le_of_ble_eq_true q7.1
            refine ⟨acc, h1, Nat.lt_of_lt_of_le (show acc.length < 100001 by omega) (by decide), _, _, n7, q7.2, ?_⟩
            have s14 := St.unset (own := own1) (hc4 _) s13
            rw [w6] at s14
            exact s14
          | false =>
            rw [if_neg Bool.false_ne_true] at q6 ⊢
            have s14 := St.unset (own := own1) (hc4 _) s11
            rw [w6] at s14
            exact ⟨ys4, ρ6, n6, q6, s14⟩
        · have e : j = zs.length := by omega
          subst e
          rw [List.drop_length] at f4
          have s9 := St.rot hl1 s8
          have s10 := St.pops hl1 s9
          have s11 := St.unset (own := own) (hc1 _) s10
          rw [wipe_sub hv, w2] at s11
          exact .inl ⟨v1.st _ n4 [.o (.lst ys4)] _ H4 [.ref D] rfl s8, ys4, _, n4, f4, s11⟩
      | false =>
        rw [if_neg Bool.false_ne_true] at q2 ⊢
        have s8 := St.unset (own := own) (hc1 _) s5
        rw [w2] at s8
        exact ⟨ys, ρ2, n2, q2, s8⟩
    · have e : i = xs.length := by omega
      subst e
      rw [List.drop_length] at f
      have s3 := St.back (hc1 _) s
      refine .inl ⟨w.st _ n [.o (.lst ys)] _ H [.ref D] rfl s, k _ _ _ _ _ f ?_⟩
      exact St.pops hl (St.rot hl s3)
/-- by an invariant of the first clause's turns -/
theorem CpD2.inv {own own1 : List Nat} {g g1 : TG} {tt tt1 : TT} {wi1 : TI} {te : TE} {Q : List D → QS} {xs : List D} (P : Nat → List D → QS) (h0 : P 0 [] ρ n)
    (hs : ∀ i x ys ρ n, xs[i]? = some x → i < xs.length → P i ys ρ n → GW c ρ n (.o (.lst ys) :: ds) own g (.v x) fun ρ1 n1 => GT c ρ1 n1 (.o (.lst ys) :: ds) tt fun b ρ2 n2 =>
      if b = true then GI c ρ2 n2 (.o (.lst ys) :: ds) wi1 fun pin1 zs ρ3 n3 => cleanO own1 (pin1 ++ ds) = true ∧ CpD c (pin1 ++ ds) own1 g1 tt1 te (fun ys' ρ4 n4 => P (i + 1) ys' (HD.unset own ρ4) n4) zs ys (HD.unset own1 ρ3) n3
      else P (i + 1) ys (HD.unset own ρ2) n2) (hd : ∀ ys ρ n, P xs.length ys ρ n → Q ys ρ n) : CpD2 c ds own own1 g tt wi1 g1 tt1 te Q xs [] ρ n := by
  have go : ∀ (k : Nat) (ys : List D) (ρ : List S) (n : Nat), k ≤ xs.length → P k ys ρ n → CpD2 c ds own own1 g tt wi1 g1 tt1 te Q (xs.drop k) ys ρ n := by
    intro k
    generalize hm : xs.length - k = m
    induction m generalizing k with
    | zero =>
      intro ys ρ n hk p
      have : k = xs.length := by omega
      subst this
      rw [List.drop_length]
      exact hd _ _ _ p
    | succ m ih =>
      intro ys ρ n hk p
      have hlt : k < xs.length := by omega
      rw [List.drop_eq_getElem_cons hlt]
      refine (hs k xs[k] ys ρ n (List.getElem?_eq_getElem hlt) hlt p).mono fun ρ1 n1 q => q.mono fun b ρ2 n2 q2 => ?_
      cases b with
      | true =>
        rw [if_pos rfl] at q2 ⊢
        exact q2.mono fun pin1 zs ρ3 n3 q3 => ⟨q3.1, q3.2.mono fun ys' ρ4 n4 q4 => ih (k + 1) (by omega) _ _ _ hlt q4⟩
      | false =>
        rw [if_neg Bool.false_ne_true] at q2 ⊢
        exact ih (k + 1) (by omega) _ _ _ hlt q2
  exact go 0 [] ρ n (Nat.zero_le _) h0
/-- each item gives a list, the slots come back -/
theorem CpD2.flatD {own own1 : List Nat} {g g1 : TG} {tt tt1 : TT} {wi1 : TI} {te : TE} {Q : List D → QS} {xs : List D} (f : D → List D)
    (hs : ∀ x ∈ xs, ∀ ys, ys.length ≤ (xs.flatMap f).length → GW c ρ n (.o (.lst ys) :: ds) own g (.v x) fun ρ1 n1 => GT c ρ1 n1 (.o (.lst ys) :: ds) tt fun b ρ2 n2 => b = true ∧ GI c ρ2 n2 (.o (.lst ys) :: ds) wi1 fun pin1 zs ρ3 n3 =>
      cleanO own1 (pin1 ++ ds) = true ∧ CpD c (pin1 ++ ds) own1 g1 tt1 te (fun ys' ρ4 n4 => ys' = ys ++ f x ∧ HD.unset own ρ4 = ρ ∧ n4 = n) zs ys (HD.unset own1 ρ3) n3)
    (hd : Q (xs.flatMap f) ρ n) : CpD2 c ds own own1 g tt wi1 g1 tt1 te Q xs [] ρ n := by
  have key : ∀ i, ((xs.take i).flatMap f).length ≤ (xs.flatMap f).length := fun i => by
    have e : xs.flatMap f = (xs.take i).flatMap f ++ (xs.drop i).flatMap f := by rw [← List.flatMap_append, List.take_append_drop]
    rw [e, List.length_append]
    exact Nat.le_add_right _ _
  refine CpD2.inv (fun i ys ρ' n' => ys = (xs.take i).flatMap f ∧ ρ' = ρ ∧ n' = n) ⟨rfl, rfl, rfl⟩ (fun i x ys ρ' n' hx hi p => ?_) fun ys ρ' n' p => ?_
  · obtain ⟨rfl, rfl, rfl⟩ := p
    refine (hs x (List.mem_of_getElem? hx) _ (key i)).mono fun ρ1 n1 q => q.mono fun b ρ2 n2 q2 => ?_
    obtain ⟨rfl, q2⟩ := q2
    rw [if_pos rfl]
    refine q2.mono fun pin1 zs ρ3 n3 q3 => ⟨q3.1, q3.2.mono fun ys' ρ4 n4 q4 => ⟨?_, q4.2.1, q4.2.2⟩⟩
    rw [q4.1, List.take_add_one, hx, List.flatMap_append]
    simp
  · obtain ⟨rfl, rfl, rfl⟩ := p
    rw [List.take_length]; exact hd
end
end HD
/-! x in a tuple of instances with an own == -/
namespace HIn
open PySem PySem.Spec PyProof.Rows L2
section
open PySem.SeqAt
open AutoSeq1 (wpAny_loadPart')
open MeetsSeq MeetsSeq2 MeetsSeq3 SeqRoads2
variable {prog : Program} {w : World} {A : Around} {R : Result → Shared → Prop}
theorem tuple_containsG (l : Addr) (items : Array Value) (n : Nat) (dd : Option Addr) (sl : Array (Option Value)) (x : Value) (I : Nat → Shared → Prop)
    (turn : ∀ i (h1 : i < items.size) s, I i s → wpAny (model prog w) A.in1 (eqBool items[i] x) (fun r s' => if r = true then R (.ok (.ret (.bool true))) s' else I (i + 1) s') (fun e s' => R (.error e) s') s)
    (fin : ∀ s, I items.size s → R (.ok (.ret (.bool false))) s) {s : Shared} (hl : s.heap.get? l = some { cls := .type "tuple", dict := dd, data := .seq items n, slots := sl }) (h : I 0 s) :
    wpAny (model prog w) A.in1 (Builtin.«tuple.__contains__» ⟨[.ref l, x], []⟩) (GQ.FinOf prog w A R) (fun e s' => R (.error e) s') s := by
  have h0 := h
  obtain ⟨hp, g, d, tk, os⟩ := s
  wp_walk using wpAny_loadPart' hl, wpAny_forIn_array _ (fun rest b s' => b.1 = none ∧ ∃ i, rest = items.toList.drop i ∧ i ≤ items.size ∧ I i s') _
  case turn =>
    rintro y rest b s' ⟨hb, i, hz, hi, hI⟩
    have hlt : i < items.size := by
      rcases Nat.lt_or_ge i items.size with h' | h'
      · exact h'
      · rw [List.drop_of_length_le (by simpa using h')] at hz; cases hz
    rw [List.drop_eq_getElem_cons (by simpa using hlt)] at hz
    injection hz with hy hrest
    have hy : y = items[i] := by simpa using hy
    subst hy
    refine wpAny_bind (wpAny_mono (turn i hlt s' hI) (fun r s2 q2 => ?_) fun _ _ x => x)
    cases r with
    | true =>
      rw [if_pos rfl] at q2
      wp_walk
      exact q2
    | false =>
      rw [if_neg Bool.false_ne_true] at q2
      wp_walk
      exact ⟨rfl, i + 1, hrest, hlt, q2⟩
  case fin =>
    rintro ⟨b1, b2⟩ s' ⟨hb, i, hz, hi, hI⟩
    simp only at hb
    subst hb
    have hge : items.size ≤ i := by
      rcases Nat.lt_or_ge i items.size with h' | h'
      · rw [List.drop_eq_getElem_cons (by simpa using h')] at hz; cases hz
      · exact h'
    have hi' : i = items.size := by omega
    have hR : R (.ok (.ret (.bool false))) s' := fin s' (hi' ▸ hI)
    wp_walk
    exact hR
  case h =>
    exact ⟨rfl, 0, rfl, Nat.zero_le _, h0⟩
/-- two tuples, pair by pair -/
theorem tuple_eqX (l b : Addr) (items items2 : Array Value) (n n2 : Nat) (dd dd2 : Option Addr) (sl sl2 : Array (Option Value)) (I : Nat → Shared → Prop)
    (turn : ∀ i (h1 : i < items.size) (h2 : i < items2.size) s, I i s → wpAny (model prog w) A.in1 (eqBool items[i] items2[i]) (fun r s' => if r = true then I (i + 1) s' else R (.ok (.ret (.bool false))) s') (fun e s' => R (.error e) s') s)
    (fin : ∀ i s, i = min items.size items2.size → I i s → R (.ok (.ret (.bool (items.size == items2.size)))) s) {s : Shared} (hl1 : s.heap.get? l = some { cls := .type "tuple", dict := dd, data := .seq items n, slots := sl }) (hb1 : s.heap.get? b = some { cls := .type "tuple", dict := dd2, data := .seq items2 n2, slots := sl2 }) (h : I 0 s) :
    wpAny (model prog w) A.in1 (Builtin.«tuple.__eq__» ⟨[.ref l, .ref b], []⟩) (GQ.FinOf prog w A R) (fun e s' => R (.error e) s') s := by
  have f2 := AutoSeq1.sub_tuple_tuple
  have hZ : (items.toList.zip items2.toList).length = min items.size items2.size := by simp
  have h0 := h
  obtain ⟨hp, g, d, tk, os⟩ := s
  wp_walk using wpAny_loadPart' hl1, wpAny_loadPart' hb1, wpAny_forIn_list _ (fun rest b s' => b.1 = none ∧ ∃ i, rest = (items.toList.zip items2.toList).drop i ∧ i ≤ min items.size items2.size ∧ I i s') _
  case turn =>
    rintro ⟨y, x⟩ rest b s' ⟨hb', i, hz, hi, hI⟩
    have hlt : i < (items.toList.zip items2.toList).length := by
      rcases Nat.lt_or_ge i (items.toList.zip items2.toList).length with h' | h'
      · exact h'
      · rw [List.drop_of_length_le h'] at hz; cases hz
    have h1 : i < items.size := by rw [hZ] at hlt; omega
    have h2 : i < items2.size := by rw [hZ] at hlt; omega
    rw [List.drop_eq_getElem_cons hlt] at hz
    injection hz with hyx hrest
    have hy : y = items[i] := by have := congrArg Prod.fst hyx; simpa using this
    have hx : x = items2[i] := by have := congrArg Prod.snd hyx; simpa using this
    subst hy hx
    refine wpAny_bind (wpAny_mono (turn i h1 h2 s' hI) (fun r s2 q2 => ?_) fun _ _ x => x)
    cases r with
    | true =>
      rw [if_pos rfl] at q2
      wp_walk
      exact ⟨rfl, i + 1, hrest, by omega, q2⟩
    | false =>
      rw [if_neg Bool.false_ne_true] at q2
      wp_walk
      exact q2
  case fin =>
    rintro ⟨b1, b2⟩ s' ⟨hb', i, hz, hi, hI⟩
    simp only at hb'
    subst hb'
    have hge : min items.size items2.size ≤ i := by
      rcases Nat.lt_or_ge i (items.toList.zip items2.toList).length with h' | h'
      · rw [List.drop_eq_getElem_cons h'] at hz; cases hz
      · rw [← hZ]; exact h'
    have hi' : i = min items.size items2.size := by omega
    have hR : R (.ok (.ret (.bool (items.size == items2.size)))) s' := fin i s' hi' hI
    wp_walk
    simpa [Builtin.Tuple.tupleCompareSizes] using hR
  case h =>
    exact ⟨rfl, 0, rfl, Nat.zero_le _, h0⟩
/-- two tuples, pair by pair -/
theorem tuple_neX (l b : Addr) (items items2 : Array Value) (n n2 : Nat) (dd dd2 : Option Addr) (sl sl2 : Array (Option Value)) (I : Nat → Shared → Prop)
    (turn : ∀ i (h1 : i < items.size) (h2 : i < items2.size) s, I i s → wpAny (model prog w) A.in1 (eqBool items[i] items2[i]) (fun r s' => if r = true then I (i + 1) s' else R (.ok (.ret (.bool true))) s') (fun e s' => R (.error e) s') s)
    (fin : ∀ i s, i = min items.size items2.size → I i s → R (.ok (.ret (.bool (items.size != items2.size)))) s) {s : Shared} (hl1 : s.heap.get? l = some { cls := .type "tuple", dict := dd, data := .seq items n, slots := sl }) (hb1 : s.heap.get? b = some { cls := .type "tuple", dict := dd2, data := .seq items2 n2, slots := sl2 }) (h : I 0 s) :
    wpAny (model prog w) A.in1 (Builtin.«tuple.__ne__» ⟨[.ref l, .ref b], []⟩) (GQ.FinOf prog w A R) (fun e s' => R (.error e) s') s := by
  have f2 := AutoSeq1.sub_tuple_tuple
  have hZ : (items.toList.zip items2.toList).length = min items.size items2.size := by simp
  have h0 := h
  obtain ⟨hp, g, d, tk, os⟩ := s
  wp_walk using wpAny_loadPart' hl1, wpAny_loadPart' hb1, wpAny_forIn_list _ (fun rest b s' => b.1 = none ∧ ∃ i, rest = (items.toList.zip items2.toList).drop i ∧ i ≤ min items.size items2.size ∧ I i s') _
  case turn =>
    rintro ⟨y, x⟩ rest b s' ⟨hb', i, hz, hi, hI⟩
    have hlt : i < (items.toList.zip items2.toList).length := by
      rcases Nat.lt_or_ge i (items.toList.zip items2.toList).length with h' | h'
      · exact h'
      · rw [List.drop_of_length_le h'] at hz; cases hz
    have h1 : i < items.size := by rw [hZ] at hlt; omega
    have h2 : i < items2.size := by rw [hZ] at hlt; omega
    rw [List.drop_eq_getElem_cons hlt] at hz
    injection hz with hyx hrest
    have hy : y = items[i] := by have := congrArg Prod.fst hyx; simpa using this
    have hx : x = items2[i] := by have := congrArg Prod.snd hyx; simpa using this
    subst hy hx
    refine wpAny_bind (wpAny_mono (turn i h1 h2 s' hI) (fun r s2 q2 => ?_) fun _ _ x => x)
    cases r with
    | true =>
      rw [if_pos rfl] at q2
      wp_walk
      exact ⟨rfl, i + 1, hrest, by omega, q2⟩
    | false =>
      rw [if_neg Bool.false_ne_true] at q2
      wp_walk
      exact q2
  case fin =>
    rintro ⟨b1, b2⟩ s' ⟨hb', i, hz, hi, hI⟩
    simp only at hb'
    subst hb'
    have hge : min items.size items2.size ≤ i := by
      rcases Nat.lt_or_ge i (items.toList.zip items2.toList).length with h' | h'
      · rw [List.drop_eq_getElem_cons h'] at hz; cases hz
      · rw [← hZ]; exact h'
    have hi' : i = min items.size items2.size := by omega
    have hR : R (.ok (.ret (.bool (items.size != items2.size)))) s' := fin i s' hi' hI
    wp_walk
    simpa [Builtin.Tuple.tupleCompareSizes] using hR
  case h =>
    exact ⟨rfl, 0, rfl, Nat.zero_le _, h0⟩
end
/-! the walk along a tuple's items by an own == -/
/-- one address holds one tuple -/
def UqT (K : PySem.W.Frag) (H : Hp) : Prop := ∀ a vs ws, SqT K H a vs → SqT K H a ws → vs = ws
def inW (K : PySem.W.Frag) (f : Addr) (sp : Sp) (x : V) : List V → Hp → (Bool → Hp → Prop) → Prop
  | [], H, Q => Q false H
  | y :: ys, H, Q => ∃ a b C dx fs D dy gs, y = .ref a ∧ x = .ref b ∧ H a = some (.ins C dx fs) ∧ H b = some (.ins D dy gs) ∧ HP.EqCls K C D f ∧ (a = b → UqT K H → Q true H) ∧
    (a ≠ b → sp [.ref a, .ref b] H (fun v H' => ∃ r, v = .bl r ∧ if r = true then Q true H' else inW K f sp x ys H' Q) E0)
def rInO (neg : Bool) (K : PySem.W.Frag) (f : Addr) (sp : Sp) : R2 := fun x y H Q => ∃ a vs, y = .ref a ∧ SqT K H a vs ∧ inW K f sp x vs H fun r H' => Q (.bl (if neg then !r else r)) H'
section
variable {X : Cx} {K : PySem.W.Frag} {n : Nat} {f : Addr} {fd : FuncData} {ps : List Str} {sp : Sp}
theorem inO_call (F : FnOk X.prog X.w X.K X.mg X.base CX0 n f fd ps sp) (hb : Binds X.K fd ps []) (hr : Room (n + 1) X.A) {pins : List (Addr × Obj)} {σ : L2.St} {H : Hp} {s : Shared} {a : Addr} {vs : List V} {x : V} {u : Value} {Q : Bool → Hp → Prop}
    (I : Inv X pins σ H s) (rx : RelV x u) (ht : SqT X.K H a vs) (h : inW X.K f sp x vs H Q) :
    wpAny (model X.prog X.w) X.A (call (.builtin "tuple.__contains__") [.ref a, u]) (fun v s' => ∃ b, v = .bool b ∧ ∃ H', Inv X pins σ H' s' ∧ Q b H') X.xe s := by
  obtain ⟨its, r, ⟨⟨cls, dd, data, sl⟩, ho, hc, m, hd⟩, _⟩ := I.tuple ht
  simp only at hc hd
  subst hc hd
  refine GQ.call_here PySem.F.slot_tuple_contains ⟨_, ho, rfl⟩ PySem.F.entry_tuple_contains (PySem.F.args_tuple_contains_2 _ _) ?_
  refine tuple_containsG a its.toArray m dd sl u (fun i s' => ∃ H', Inv X pins σ H' s' ∧ inW X.K f sp x (vs.drop i) H' Q) (fun i h1 s' q => ?_) (fun s' q => ?_) ho ⟨H, I, h⟩
  · obtain ⟨H1, I1, q⟩ := q
    have k1 : i < vs.length := by rw [r.length]; simpa using h1
    rw [List.drop_eq_getElem_cons k1] at q
    obtain ⟨b, c, C, dx, fs, D, dy, gs, ey, ex, hb1, hc1, k, q1, q2⟩ := q
    obtain ⟨z, hz, rz⟩ := r.get (List.getElem?_eq_getElem k1)
    have e1 : its.toArray[i] = Value.ref b := by
      have h1' : i < its.length := by simpa using h1
      rw [List.getElem?_eq_getElem h1'] at hz
      rw [ey] at rz
      have : its[i] = z := Option.some.inj hz
      have rz : z = Value.ref b := rz
      simp [this, rz]
    have e2 : u = Value.ref c := by rw [ex] at rx; exact rx
    rw [e1, e2]
    by_cases hbc : b = c
    · subst hbc
      refine SeqAt.EqAt.same (A := X.A.in1) (s := s') (.ref b) X.prog X.w _ _ ?_
      rw [if_pos rfl]
      exact ⟨true, rfl, H1, I1, q1 rfl fun a vs ws => I1.tuple_inj⟩
    · have q2 := q2 hbc
      refine GQ.eqBool_refG hbc ?_
      obtain ⟨mA, J, _⟩ := ins_get I1.hok hb1
      obtain ⟨mB, J', _⟩ := ins_get I1.hok hc1
      obtain ⟨od, J, _⟩ := J.look
      obtain ⟨od', J', _⟩ := J'.look
      obtain ⟨m', hF⟩ := I1.fr
      have hr1 : Room n X.A.in1 := hr.in1
      refine PySem.W.cmp_K (op := .Eq) (tb := .ref D) hr1.units0 hF I1.ok.mod.kin J J'.type k.nf k.eq k.fn ?_
      refine wpAny_call (codeAny_mono (HP.eqO_run F hb hr1 rfl I1 q2) fun r s2 hq => ?_)
      cases r with
      | error e => exact hq.elim
      | ok fl =>
        cases fl with
        | ret w =>
          obtain ⟨z, H', I', rz, r, ez, q⟩ := hq
          subst ez
          obtain rfl : w = Value.bool r := rz
          refine ⟨r, rfl, ?_⟩
          cases r with
          | true =>
            rw [if_pos rfl] at q ⊢
            exact ⟨true, rfl, H', I', q⟩
          | false =>
            rw [if_neg Bool.false_ne_true] at q ⊢
            exact ⟨H', I', q⟩
        | next => exact hq.elim
        | brk => exact hq.elim
        | cont => exact hq.elim
  · obtain ⟨H1, I1, q⟩ := q
    have e : its.toArray.size = vs.length := by rw [List.size_toArray, ← r.length]
    rw [e, List.drop_length] at q
    exact ⟨false, rfl, H1, I1, q⟩
theorem op_inO (F : FnOk X.prog X.w X.K X.mg X.base CX0 n f fd ps sp) (hb : Binds X.K fd ps []) (hr : Room (n + 1) X.A) (hK : X.K = K := by rfl) : OpR X (compareOp .In) (rInO false K f sp) := by
  cases hK
  intro pins s σ H x y v u Q I rx ry h
  obtain ⟨a, vs, rfl, ht, q⟩ := h
  cases ry
  have hT : s.TypeIs (.ref a) "tuple" := by
    obtain ⟨its, r, ⟨o, ho, hc, _⟩, _⟩ := I.tuple ht
    exact ⟨_, ho, hc⟩
  refine PyProof.Rows.In_slot hT PySem.F.slot_tuple_contains (wpAny_mono (inO_call F hb hr I rx ht q) (fun r s' z => ?_) fun _ _ e => e)
  obtain ⟨b, rfl, H', I', q⟩ := z
  exact wpAny_truthy_bool ⟨.bl b, H', I', rfl, q⟩
theorem op_niO (F : FnOk X.prog X.w X.K X.mg X.base CX0 n f fd ps sp) (hb : Binds X.K fd ps []) (hr : Room (n + 1) X.A) (hK : X.K = K := by rfl) : OpR X (compareOp .NotIn) (rInO true K f sp) := by
  cases hK
  intro pins s σ H x y v u Q I rx ry h
  obtain ⟨a, vs, rfl, ht, q⟩ := h
  cases ry
  have hT : s.TypeIs (.ref a) "tuple" := by
    obtain ⟨its, r, ⟨o, ho, hc, _⟩, _⟩ := I.tuple ht
    exact ⟨_, ho, hc⟩
  refine PyProof.Rows.NotIn_slot hT PySem.F.slot_tuple_contains (wpAny_mono (inO_call F hb hr I rx ht q) (fun r s' z => ?_) fun _ _ e => e)
  obtain ⟨b, rfl, H', I', q⟩ := z
  exact wpAny_truthy_bool ⟨.bl (!b), H', I', rfl, q⟩
end
/-! two tuples pair by pair, by an own == -/
def eqW (K : PySem.W.Frag) (f : Addr) (sp : Sp) : List V → List V → Hp → (Bool → Hp → Prop) → Prop
  | x :: xs, y :: ys, H, Q => ∃ a b C dx fs D dy gs, x = .ref a ∧ y = .ref b ∧ H a = some (.ins C dx fs) ∧ H b = some (.ins D dy gs) ∧ HP.EqCls K C D f ∧ (a = b → UqT K H → eqW K f sp xs ys H Q) ∧
    (a ≠ b → sp [.ref a, .ref b] H (fun v H' => ∃ r, v = .bl r ∧ if r = true then eqW K f sp xs ys H' Q else Q false H') E0)
  | [], [], H, Q => Q true H
  | [], _ :: _, H, Q => Q false H
  | _ :: _, [], H, Q => Q false H
def rTupO (neg : Bool) (K : PySem.W.Frag) (f : Addr) (sp : Sp) : R2 := fun x y H Q => ∃ a b xs ys, x = .ref a ∧ y = .ref b ∧ SqT K H a xs ∧ SqT K H b ys ∧ eqW K f sp xs ys H fun r H' => Q (.bl (if neg then !r else r)) H'
section
variable {X : Cx} {K : PySem.W.Frag} {n : Nat} {f : Addr} {fd : FuncData} {ps : List Str} {sp : Sp}
theorem eqW_fin {xs ys : List V} {H : Hp} {Q : Bool → Hp → Prop} {i : Nat} (e : i = min xs.length ys.length) (h : eqW K f sp (xs.drop i) (ys.drop i) H Q) : Q (xs.length == ys.length) H := by
  rcases Nat.lt_trichotomy xs.length ys.length with z | z | z
  · have e1 : xs.drop i = [] := List.drop_of_length_le (by omega)
    obtain ⟨y, t, e2⟩ : ∃ y t, ys.drop i = y :: t := ⟨_, _, List.drop_eq_getElem_cons (by omega)⟩
    rw [e1, e2] at h
    rw [show (xs.length == ys.length) = false from by rw [beq_eq_false_iff_ne]; omega]
    exact h
  · have e1 : xs.drop i = [] := List.drop_of_length_le (by omega)
    have e2 : ys.drop i = [] := List.drop_of_length_le (by omega)
    rw [e1, e2] at h
    rw [show (xs.length == ys.length) = true from by rw [beq_iff_eq]; omega]
    exact h
  · have e1 : ys.drop i = [] := List.drop_of_length_le (by omega)
    obtain ⟨y, t, e2⟩ : ∃ y t, xs.drop i = y :: t := ⟨_, _, List.drop_eq_getElem_cons (by omega)⟩
    rw [e1, e2] at h
    rw [show (xs.length == ys.length) = false from by rw [beq_eq_false_iff_ne]; omega]
    exact h
/-- one pair -/
theorem pair_run (F : FnOk X.prog X.w X.K X.mg X.base CX0 n f fd ps sp) (hb : Binds X.K fd ps []) (hr : Room (n + 1) X.A) {pins : List (Addr × Obj)} {σ : L2.St} {H : Hp} {s : Shared} {xs ys : List V} {its its2 : List Value} {Q : Bool → Hp → Prop} {P : Bool → Shared → Prop}
    (r : Vals xs its) (r2 : Vals ys its2) (i : Nat) (h1 : i < its.toArray.size) (h2 : i < its2.toArray.size) (I : Inv X pins σ H s) (h : eqW X.K f sp (xs.drop i) (ys.drop i) H Q)
    (ht : ∀ s' H', Inv X pins σ H' s' → eqW X.K f sp (xs.drop (i + 1)) (ys.drop (i + 1)) H' Q → P true s') (hf : ∀ s' H', Inv X pins σ H' s' → Q false H' → P false s') :
    wpAny (model X.prog X.w) X.A.in1 (eqBool its.toArray[i] its2.toArray[i]) P X.xe s := by
  have k1 : i < xs.length := by rw [r.length]; simpa using h1
  have k2 : i < ys.length := by rw [r2.length]; simpa using h2
  rw [List.drop_eq_getElem_cons k1, List.drop_eq_getElem_cons k2] at h
  obtain ⟨a, b, C, dx, fs, D, dy, gs, ex, ey, ha, hb1, k, q1, q2⟩ := h
  have at_ : ∀ {zs : List V} {us : List Value} (rz : Vals zs us) (hz : i < us.toArray.size) (kz : i < zs.length) {c : Addr}, zs[i] = V.ref c → us.toArray[i] = Value.ref c := fun {zs us} rz hz kz {c} ez => by
    obtain ⟨z, hz1, rz1⟩ := rz.get (List.getElem?_eq_getElem kz)
    have h1' : i < us.length := by simpa using hz
    rw [List.getElem?_eq_getElem h1'] at hz1
    rw [ez] at rz1
    have e1 : us[i] = z := Option.some.inj hz1
    have rz : z = Value.ref c := rz1
    simp [e1, rz]
  rw [at_ r h1 k1 ex, at_ r2 h2 k2 ey]
  by_cases hab : a = b
  · subst hab
    exact SeqAt.EqAt.same (A := X.A.in1) (s := s) (.ref a) X.prog X.w _ _ (ht s H I (q1 rfl fun a vs ws => I.tuple_inj))
  · have q2 := q2 hab
    refine GQ.eqBool_refG hab ?_
    obtain ⟨mA, J, _⟩ := ins_get I.hok ha
    obtain ⟨mB, J', _⟩ := ins_get I.hok hb1
    obtain ⟨od, J, _⟩ := J.look
    obtain ⟨od', J', _⟩ := J'.look
    obtain ⟨m', hF⟩ := I.fr
    have hr1 : Room n X.A.in1 := hr.in1
    refine PySem.W.cmp_K (op := .Eq) (tb := .ref D) hr1.units0 hF I.ok.mod.kin J J'.type k.nf k.eq k.fn ?_
    refine wpAny_call (codeAny_mono (HP.eqO_run F hb hr1 rfl I q2) fun r s2 hq => ?_)
    cases r with
    | error e => exact hq.elim
    | ok fl =>
      cases fl with
      | ret w =>
        obtain ⟨z, H', I', rz, r, ez, q⟩ := hq
        subst ez
        obtain rfl : w = Value.bool r := rz
        refine ⟨r, rfl, ?_⟩
        cases r with
        | true => rw [if_pos rfl] at q; exact ht s2 H' I' q
        | false => rw [if_neg Bool.false_ne_true] at q; exact hf s2 H' I' q
      | next => exact hq.elim
      | brk => exact hq.elim
      | cont => exact hq.elim
theorem op_eqTO (F : FnOk X.prog X.w X.K X.mg X.base CX0 n f fd ps sp) (hb : Binds X.K fd ps []) (hr : Room (n + 1) X.A) (hK : X.K = K := by rfl) : OpR X (compareOp .Eq) (rTupO false K f sp) := by
  cases hK
  intro pins s σ H x y v u Q I rx ry h
  obtain ⟨a, b, xs, ys, rfl, rfl, ht1, ht2, q⟩ := h
  cases rx
  cases ry
  obtain ⟨its, r, ⟨⟨cls, dd, data, sl⟩, ho, hc, m, hd⟩, _⟩ := I.tuple ht1
  obtain ⟨its2, r2, ⟨⟨cls2, dd2, data2, sl2⟩, ho2, hc2, m2, hd2⟩, _⟩ := I.tuple ht2
  simp only at hc hd hc2 hd2
  subst hc hd hc2 hd2
  show wpAny (model X.prog X.w) X.A (richCompare .Eq (.ref a) (.ref b)) _ X.xe s
  refine PySem.wpAny_richCompare_same_room (op := .Eq) ⟨_, ho, rfl⟩ ⟨_, ho2, rfl⟩ PySem.F.slot_tuple_eq (GQ.call_here PySem.F.slot_tuple_eq ⟨_, ho, rfl⟩ PySem.F.entry_tuple_eq (PySem.F.args_tuple_eq_2 _ _) ?_) hr.units0
  refine tuple_eqX a b its.toArray its2.toArray m m2 dd dd2 sl sl2 (fun i s' => ∃ H', Inv X pins σ H' s' ∧ eqW X.K f sp (xs.drop i) (ys.drop i) H' fun r H' => Q (.bl (if false then !r else r)) H') (fun i h1 h2 s' q => ?_) (fun i s' e q => ?_) ho ho2 ⟨H, I, q⟩
  · obtain ⟨H1, I1, q⟩ := q
    refine pair_run F hb hr r r2 i h1 h2 I1 q (fun s2 H2 I2 q2 => ?_) (fun s2 H2 I2 q2 => ?_)
    · rw [if_pos rfl]; exact ⟨H2, I2, q2⟩
    · rw [if_neg Bool.false_ne_true]
      exact ⟨(fun z => nomatch z), .bl false, H2, I2, rfl, q2⟩
  · obtain ⟨H1, I1, q⟩ := q
    have e1 : its.toArray.size = xs.length := by rw [List.size_toArray, ← r.length]
    have e2 : its2.toArray.size = ys.length := by rw [List.size_toArray, ← r2.length]
    rw [e1, e2] at e ⊢
    exact ⟨(fun z => nomatch z), .bl _, H1, I1, rfl, eqW_fin e q⟩
theorem op_neTO (F : FnOk X.prog X.w X.K X.mg X.base CX0 n f fd ps sp) (hb : Binds X.K fd ps []) (hr : Room (n + 1) X.A) (hK : X.K = K := by rfl) : OpR X (compareOp .NotEq) (rTupO true K f sp) := by
  cases hK
  intro pins s σ H x y v u Q I rx ry h
  obtain ⟨a, b, xs, ys, rfl, rfl, ht1, ht2, q⟩ := h
  cases rx
  cases ry
  obtain ⟨its, r, ⟨⟨cls, dd, data, sl⟩, ho, hc, m, hd⟩, _⟩ := I.tuple ht1
  obtain ⟨its2, r2, ⟨⟨cls2, dd2, data2, sl2⟩, ho2, hc2, m2, hd2⟩, _⟩ := I.tuple ht2
  simp only at hc hd hc2 hd2
  subst hc hd hc2 hd2
  show wpAny (model X.prog X.w) X.A (richCompare .NotEq (.ref a) (.ref b)) _ X.xe s
  refine PySem.wpAny_richCompare_same_room (op := .NotEq) ⟨_, ho, rfl⟩ ⟨_, ho2, rfl⟩ PySem.F.slot_tuple_ne (GQ.call_here PySem.F.slot_tuple_ne ⟨_, ho, rfl⟩ PySem.F.entry_tuple_ne (PySem.F.args_tuple_ne_2 _ _) ?_) hr.units0
  refine tuple_neX a b its.toArray its2.toArray m m2 dd dd2 sl sl2 (fun i s' => ∃ H', Inv X pins σ H' s' ∧ eqW X.K f sp (xs.drop i) (ys.drop i) H' fun r H' => Q (.bl (if true then !r else r)) H') (fun i h1 h2 s' q => ?_) (fun i s' e q => ?_) ho ho2 ⟨H, I, q⟩
  · obtain ⟨H1, I1, q⟩ := q
    refine pair_run F hb hr r r2 i h1 h2 I1 q (fun s2 H2 I2 q2 => ?_) (fun s2 H2 I2 q2 => ?_)
    · rw [if_pos rfl]; exact ⟨H2, I2, q2⟩
    · rw [if_neg Bool.false_ne_true]
      exact ⟨(fun z => nomatch z), .bl true, H2, I2, rfl, q2⟩
  · obtain ⟨H1, I1, q⟩ := q
    have e1 : its.toArray.size = xs.length := by rw [List.size_toArray, ← r.length]
    have e2 : its2.toArray.size = ys.length := by rw [List.size_toArray, ← r2.length]
    rw [e1, e2] at e ⊢
    have q3 := eqW_fin e q
    refine ⟨(fun z => nomatch z), .bl _, H1, I1, rfl, ?_⟩
    exact q3
end
/-! not x as a value, x of an own truth -/
def tNotO (r : V → Hp → (Bool → Hp → Prop) → Prop) (ta : TE) : TE := fun σ H Q => ta σ H fun x H1 => r x H1 fun k H2 => Q (.bl (!k)) H2
theorem pe_notO {X : Cx} {a : Expr} {ta : TE} {pos : Pos} {r : V → Hp → (Bool → Hp → Prop) → Prop} (ha : PE X a ta) (hr : TruR X r) : PE X (.UnaryOp .Not a pos) (tNotO r ta) := by
  refine ⟨fun pins s σ H Q I h => ?_⟩
  refine UnaryOp_ (thn (ha.run pins s σ H _ I h) fun v s1 ⟨x, H1, I1, r1, q1⟩ => ?_)
  exact not_of (thn (hr pins s1 σ H1 x v (fun c H2 => Q (.bl (!c)) H2) I1 r1 q1) fun c s2 ⟨H2, I2, q2⟩ => ⟨.bl (!c), H2, I2, rfl, q2⟩)
/-! data that one value cannot stand for both -/
open HD
def dif : Nat → D → D → Bool
  | _, .int i, .int j => i != j
  | _, .str x, .str y => x != y
  | _, .bl x, .bl y => x != y
  | k + 1, .tup xs, .tup ys => xs.length != ys.length || (xs.zip ys).any fun p => dif k p.1 p.2
  | k + 1, .ins C fs, .ins C' gs => C != C' || (fs.zip gs).any fun p => dif k p.1.2 p.2.2
  | _, _, _ => false
theorem dif_sound {K : PySem.W.Frag} {g : Addr} {M : Addr → Prop} {H : Hp} (u : UqT K H) : ∀ (k : Nat) {v : V} {d e : D}, R K g M H v d → R K g M H v e → dif k d e = true → False := by
  have ra : ∀ (k : Nat), (∀ {v : V} {d e : D}, R K g M H v d → R K g M H v e → dif k d e = true → False) → ∀ {vs : List V} {xs ys : List D}, RA K g M H vs xs → RA K g M H vs ys → ((xs.zip ys).any fun p => dif k p.1 p.2) = true → False := fun k ih => by
    intro vs
    induction vs with
    | nil => intro xs ys h1 h2 h; cases h1; cases h
    | cons v vs ih2 =>
      intro xs ys h1 h2 h
      cases h1 with
      | cons a1 b1 =>
      cases h2 with
      | cons a2 b2 =>
      rw [List.zip_cons_cons, List.any_cons, Bool.or_eq_true] at h
      rcases h with h | h
      · exact ih a1 a2 h
      · exact ih2 b1 b2 h
  have rf : ∀ (k : Nat), (∀ {v : V} {d e : D}, R K g M H v d → R K g M H v e → dif k d e = true → False) → ∀ {fv : List (Str × V)} {xs ys : List (Str × D)}, RF K g M H fv xs → RF K g M H fv ys → ((xs.zip ys).any fun p => dif k p.1.2 p.2.2) = true → False := fun k ih => by
    intro vs
    induction vs with
    | nil => intro xs ys h1 h2 h; cases h1; cases h
    | cons v vs ih2 =>
      intro xs ys h1 h2 h
      cases h1 with
      | cons a1 b1 =>
      cases h2 with
      | cons a2 b2 =>
      rw [List.zip_cons_cons, List.any_cons, Bool.or_eq_true] at h
      rcases h with h | h
      · exact ih a1 a2 h
      · exact ih2 b1 b2 h
  intro k
  induction k with
  | zero =>
    intro v d e h1 h2 h
    cases h1 <;> cases h2 <;> first | (cases h; done) | (simp [dif] at h; done)
  | succ k ih =>
    intro v d e h1 h2 h
    cases h1 with
    | tup s1 r1 =>
      cases h2 with
      | tup s2 r2 =>
        cases u _ _ _ s1.sqt s2.sqt
        rw [dif, Bool.or_eq_true] at h
        rcases h with h | h
        · rw [← r1.len, ← r2.len] at h; simp at h
        · exact ra k (fun {v d e} => ih) r1 r2 h
      | _ => first | (cases h; done) | (simp [dif] at h; done)
    | ins n1 s1 r1 =>
      cases h2 with
      | ins n2 s2 r2 =>
        rw [s1] at s2
        cases s2
        rw [dif, Bool.or_eq_true] at h
        rcases h with h | h
        · simp at h
        · exact rf k (fun {v d e} => ih) r1 r2 h
      | _ => first | (cases h; done) | (simp [dif] at h; done)
    | _ => cases h2 <;> first | (cases h; done) | (simp [dif] at h; done)
/-! on data -/
section
variable {K : PySem.W.Frag} {c : Wd K} {ρ : List S} {n : Nat} {ds : List I} {Q : QI} {f : Addr} {sp : SpD}
theorem RA.insAt {g : Addr} {M : Addr → Prop} {H : Hp} {v : V} {C : Addr} {fs : List (Str × D)} (h : R K g M H v (.ins C fs)) : ∃ a dx fv, v = .ref a ∧ H a = some (.ins C dx fv) := by
  cases h with
  | ins _ h _ => exact ⟨_, _, _, rfl, h⟩
theorem inO_ {neg : Bool} {ix iy : I} {C E : Addr} {gs : List (Str × D)} {ys : List D} {q : D → Bool} (ey : iy.val = .tup ys) (ex : ix.val = .ins E gs) (hy : ∀ y ∈ ys, (∃ fs, y = .ins C fs) ∧ (q y = false → ∃ k, dif k y (.ins E gs) = true)) (ec : HP.EqCls K C E f)
    (hs : ∀ y ∈ ys, ∀ (P : I → Nat → Prop) (Z : XD), (P (.v (.bl (q y))) n) → sp [y, .ins E gs] n P Z) (h : Q (.v (.bl (if neg then !(ys.any q) else ys.any q))) (frz [iy, ix] ρ) n) : GO c ρ n ds (rInO neg K f (lift K sp)) ix iy Q := fun σ H vs x y F s k => by
  have s1 : St c (frz [iy, ix] ρ) n (.v (.tup ys) :: .v (.ins E gs) :: ds) σ H (y :: x :: vs) := by
    have := St.frzs (is := [iy, ix]) (ws := [y, x]) rfl s
    rw [show [iy, ix].map fv = [.v (.tup ys), .v (.ins E gs)] from by simp only [List.map, fv, ex, ey]] at this
    exact this
  generalize frz [iy, ix] ρ = ρ at s1 h
  have main : ∀ {H : Hp}, St c ρ n (.v (.tup ys) :: .v (.ins E gs) :: ds) σ H (y :: x :: vs) → ∃ L B a us, StX c L B ρ n (.v (.tup ys) :: .v (.ins E gs) :: ds) σ H (y :: x :: vs) ∧ y = .ref a ∧ TsM K (Mo c (L ++ B)) H a us ∧ RA K c.g (Mo c (L ++ B)) H us ys ∧ R K c.g (Mo c (L ++ B)) H x (.ins E gs) := fun {H} s => by
    obtain ⟨L, B, s⟩ := s
    have r1 := StX.peek (ex := []) (ews := []) (d := .tup ys) (w := y) rfl s
    have r2 := StX.peek (ex := [.v (.tup ys)]) (ews := [y]) (d := .ins E gs) (w := x) (ds := ds) (vs := vs) rfl s
    cases r1 with
    | tup t ra => exact ⟨L, B, _, _, s, rfl, t, ra, r2⟩
  obtain ⟨L, B, a, us, s2, rfl, ht, ra, rx⟩ := main s1
  refine ⟨a, us, rfl, ht.sqt, ?_⟩
  have fin : ∀ {H : Hp} {b : Bool}, b = ys.any q → St c ρ n (.v (.tup ys) :: .v (.ins E gs) :: ds) σ H (.ref a :: x :: vs) → F (.bl (if neg then !b else b)) H := fun {H b} e s => by
    refine k _ _ _ _ _ h ?_
    have := (s.pop.pop).pushS (v := .bl (if neg then !(ys.any q) else ys.any q)) (d := .bl (if neg then !(ys.any q) else ys.any q)) rfl
    rw [e]
    exact this
  -- the items from i on
  have go : ∀ (m i : Nat) {H : Hp}, us.length - i = m → i ≤ us.length → (ys.take i).any q = false → St c ρ n (.v (.tup ys) :: .v (.ins E gs) :: ds) σ H (.ref a :: x :: vs) → (∃ L B, StX c L B ρ n (.v (.tup ys) :: .v (.ins E gs) :: ds) σ H (.ref a :: x :: vs) ∧ RA K c.g (Mo c (L ++ B)) H us ys) →
      inW K f (lift K sp) x (us.drop i) H fun r H' => F (.bl (if neg then !r else r)) H' := by
    intro m
    induction m with
    | zero =>
      intro i H hm hi hq s _
      have e : i = us.length := by omega
      subst e
      rw [List.drop_length]
      rw [ra.len, List.take_length] at hq
      exact fin hq.symm s
    | succ m ih =>
      intro i H hm hi hq s hra
      have hlt : i < us.length := by omega
      have hlt2 : i < ys.length := by rw [← ra.len]; exact hlt
      rw [List.drop_eq_getElem_cons hlt]
      obtain ⟨L, B, s2, ra2⟩ := hra
      obtain ⟨w, hw, rw'⟩ := ra2.at (List.getElem?_eq_getElem hlt2)
      have ew : us[i] = w := by rw [List.getElem?_eq_getElem hlt] at hw; exact Option.some.inj hw
      have hm2 : ys[i] ∈ ys := List.getElem_mem hlt2
      obtain ⟨⟨fs, efs⟩, hdif⟩ := hy _ hm2
      have rx2 : R K c.g (Mo c (L ++ B)) H x (.ins E gs) := StX.peek (ex := [.v (.tup ys)]) (ews := [.ref a]) (d := .ins E gs) (w := x) (ds := ds) (vs := vs) rfl s2
      have rw2 : R K c.g (Mo c (L ++ B)) H w (.ins C fs) := by rw [← efs]; exact rw'
      obtain ⟨a1, dx, fv, e1, h1⟩ := RA.insAt rw2
      obtain ⟨b1, dy, gv, e2, h2⟩ := RA.insAt rx2
      subst e2
      rw [ew, e1]
      have hany : ∀ b, q ys[i] = b → (ys.take (i + 1)).any q = b := fun b hb => by
        rw [List.take_add_one, List.getElem?_eq_getElem hlt2, List.any_append, hq]
        simp [hb]
      have htrue : q ys[i] = true → true = ys.any q := fun hb => (List.any_eq_true.mpr ⟨_, hm2, hb⟩).symm
      refine ⟨a1, b1, C, dx, fv, E, dy, gv, rfl, rfl, h1, h2, ec, fun e u => ?_, fun ne => ?_⟩
      · refine fin (htrue ?_) s
        cases hb : q ys[i] with
        | true => rfl
        | false =>
          obtain ⟨k', hk⟩ := hdif hb
          rw [e1, e] at rw'
          exact (dif_sound u k' rw' rx2 hk).elim
      · refine ⟨⟨c.g, c.k, c.ns, Mo c (L ++ B), H⟩, n, [ys[i], .ins E gs], _, fun _ _ _ => False, ⟨rfl, s2.hat, .inl s2.mg, .inl s2.ml, s2.at, .cons (by rw [← e1]; exact rw') (.cons rx2 .nil), fun it m' v H2 q2 k2 h3 r2 => ?_, fun C fs n' x H' z => z.elim⟩, hs _ hm2 (fun it m' => it = .v (.bl (q ys[i])) ∧ m' = n) _ ⟨rfl, rfl⟩⟩
        obtain ⟨e3, e4⟩ := q2
        subst e3 e4
        cases (show R K c.g _ H2 v (.bl (q ys[i])) from r2)
        refine ⟨_, rfl, ?_⟩
        have s3 := s2.kept k2 h3
        cases hb : q ys[i] with
        | true =>
          rw [if_pos rfl]
          exact fin (htrue hb) ⟨L, B, s3⟩
        | false =>
          rw [if_neg Bool.false_ne_true]
          refine ih (i + 1) (by omega) (by omega) (hany _ hb) ⟨L, B, s3⟩ ⟨L, B, s3, ?_⟩
          exact ra2.mv fun b o nb hb => ⟨nb, k2 b o (fun e => nb (.inl (e ▸ s2.mg))) hb⟩
  have := go us.length 0 (by omega) (by omega) rfl ⟨L, B, s2⟩ ⟨L, B, s2, ra⟩
  rw [List.drop_zero] at this
  exact this
def eqL (q : D → D → Bool) (xs ys : List D) : Bool := xs.length == ys.length && (xs.zip ys).all fun p => q p.1 p.2
theorem tupO_ {neg : Bool} {ix iy : I} {C E : Addr} {xs ys : List D} {q : D → D → Bool} (ex : ix.val = .tup xs) (ey : iy.val = .tup ys) (hxy : ∀ x ∈ xs, ∀ y ∈ ys, (∃ fs, x = .ins C fs) ∧ (∃ gs, y = .ins E gs) ∧ (q x y = false → ∃ k, dif k x y = true))
    (ec : xs ≠ [] → ys ≠ [] → HP.EqCls K C E f) (hs : ∀ x ∈ xs, ∀ y ∈ ys, ∀ (P : I → Nat → Prop) (Z : XD), (P (.v (.bl (q x y))) n) → sp [x, y] n P Z) (h : Q (.v (.bl (if neg then !(eqL q xs ys) else eqL q xs ys))) (frz [iy, ix] ρ) n) : GO c ρ n ds (rTupO neg K f (lift K sp)) ix iy Q := fun σ H vs x y F s k => by
  have s1 : St c (frz [iy, ix] ρ) n (.v (.tup ys) :: .v (.tup xs) :: ds) σ H (y :: x :: vs) := by
    have := St.frzs (is := [iy, ix]) (ws := [y, x]) rfl s
    rw [show [iy, ix].map fv = [.v (.tup ys), .v (.tup xs)] from by simp only [List.map, fv, ex, ey]] at this
    exact this
  generalize frz [iy, ix] ρ = ρ at s1 h
  obtain ⟨L, B, s2⟩ := s1
  have r1 := StX.peek (ex := []) (ews := []) (d := .tup ys) (w := y) rfl s2
  have r2 := StX.peek (ex := [.v (.tup ys)]) (ews := [y]) (d := .tup xs) (w := x) (ds := ds) (vs := vs) rfl s2
  cases r1 with
  | @tup b ws _ tb rb =>
  cases r2 with
  | @tup a us _ ta ra =>
  refine ⟨a, b, us, ws, rfl, rfl, ta.sqt, tb.sqt, ?_⟩
  have fin : ∀ {H : Hp} {r : Bool}, r = eqL q xs ys → St c ρ n (.v (.tup ys) :: .v (.tup xs) :: ds) σ H (.ref b :: .ref a :: vs) → F (.bl (if neg then !r else r)) H := fun {H r} e s => by
    refine k _ _ _ _ _ h ?_
    have := (s.pop.pop).pushS (v := .bl (if neg then !(eqL q xs ys) else eqL q xs ys)) (d := .bl (if neg then !(eqL q xs ys) else eqL q xs ys)) rfl
    rw [e]
    exact this
  have go : ∀ (m i : Nat) {H : Hp}, us.length + ws.length - i = m → i ≤ us.length → i ≤ ws.length → ((xs.zip ys).take i).all (fun p => q p.1 p.2) = true → (∃ L B, StX c L B ρ n (.v (.tup ys) :: .v (.tup xs) :: ds) σ H (.ref b :: .ref a :: vs) ∧ RA K c.g (Mo c (L ++ B)) H us xs ∧ RA K c.g (Mo c (L ++ B)) H ws ys) →
      eqW K f (lift K sp) (us.drop i) (ws.drop i) H fun r H' => F (.bl (if neg then !r else r)) H' := by
    intro m
    induction m with
    | zero =>
      intro i H hm hi hj hq ⟨L, B, s, ra, rb⟩
      have e1 : us = [] := List.eq_nil_of_length_eq_zero (by omega)
      have e2 : ws = [] := List.eq_nil_of_length_eq_zero (by omega)
      subst e1 e2
      cases ra
      cases rb
      rw [List.drop_nil]
      exact fin rfl ⟨L, B, s⟩
    | succ m ih =>
      intro i H hm hi hj hq ⟨L, B, s, ra, rb⟩
      rcases Nat.lt_or_ge i us.length with h1 | h1
      · rcases Nat.lt_or_ge i ws.length with h2 | h2
        · have k1 : i < xs.length := by rw [← ra.len]; exact h1
          have k2 : i < ys.length := by rw [← rb.len]; exact h2
          rw [List.drop_eq_getElem_cons h1, List.drop_eq_getElem_cons h2]
          obtain ⟨u, hu, ru⟩ := ra.at (List.getElem?_eq_getElem k1)
          obtain ⟨w, hw, rw'⟩ := rb.at (List.getElem?_eq_getElem k2)
          rw [List.getElem?_eq_getElem h1] at hu
          rw [List.getElem?_eq_getElem h2] at hw
          rw [Option.some.inj hu, Option.some.inj hw]
          have m1 : xs[i] ∈ xs := List.getElem_mem k1
          have m2 : ys[i] ∈ ys := List.getElem_mem k2
          obtain ⟨⟨fs, efs⟩, ⟨gs, egs⟩, hdif⟩ := hxy _ m1 _ m2
          have ru2 : R K c.g (Mo c (L ++ B)) H u (.ins C fs) := by rw [← efs]; exact ru
          have rw2 : R K c.g (Mo c (L ++ B)) H w (.ins E gs) := by rw [← egs]; exact rw'
          obtain ⟨a1, dx, fv, e1, g1⟩ := RA.insAt ru2
          obtain ⟨b1, dy, gv, e2, g2⟩ := RA.insAt rw2
          subst e1 e2
          have hz : (xs.zip ys)[i]? = some (xs[i], ys[i]) := by
            rw [List.getElem?_zip_eq_some]
            exact ⟨List.getElem?_eq_getElem k1, List.getElem?_eq_getElem k2⟩
          have hall : q xs[i] ys[i] = true → ((xs.zip ys).take (i + 1)).all (fun p => q p.1 p.2) = true := fun hb => by
            rw [List.take_add_one, hz, List.all_append, hq]
            simp [hb]
          have hfalse : q xs[i] ys[i] = false → false = eqL q xs ys := fun hb => by
            have hm3 : (xs[i], ys[i]) ∈ xs.zip ys := List.mem_of_getElem? hz
            have : ((xs.zip ys).all fun p => q p.1 p.2) = false := by
              rw [List.all_eq_false]
              exact ⟨_, hm3, by rw [hb]; exact Bool.false_ne_true⟩
            rw [eqL, this, Bool.and_false]
          have nx : xs ≠ [] := fun e => by rw [e] at k1; cases k1
          have ny : ys ≠ [] := fun e => by rw [e] at k2; cases k2
          refine ⟨a1, b1, C, dx, fv, E, dy, gv, rfl, rfl, g1, g2, ec nx ny, fun e uq => ?_, fun ne => ?_⟩
          · refine ih (i + 1) (by omega) (by omega) (by omega) (hall ?_) ⟨L, B, s, ra, rb⟩
            cases hb : q xs[i] ys[i] with
            | true => rfl
            | false =>
              obtain ⟨k', hk⟩ := hdif hb
              rw [← e] at rw'
              exact (dif_sound uq k' ru rw' hk).elim
          · refine ⟨⟨c.g, c.k, c.ns, Mo c (L ++ B), H⟩, n, [xs[i], ys[i]], _, fun _ _ _ => False, ⟨rfl, s.hat, .inl s.mg, .inl s.ml, s.at, .cons ru (.cons rw' .nil), fun it m' v H2 q2 k2 h3 r2 => ?_, fun C fs n' x H' z => z.elim⟩, hs _ m1 _ m2 (fun it m' => it = .v (.bl (q xs[i] ys[i])) ∧ m' = n) _ ⟨rfl, rfl⟩⟩
            obtain ⟨e3, e4⟩ := q2
            subst e3 e4
            cases (show R K c.g _ H2 v (.bl (q xs[i] ys[i])) from r2)
            refine ⟨_, rfl, ?_⟩
            have s3 := s.kept k2 h3
            have mv : Mv (Mo c (L ++ B)) (Mo c (L ++ B)) H H2 := fun b o nb hb => ⟨nb, k2 b o (fun e => nb (.inl (e ▸ s.mg))) hb⟩
            cases hb : q xs[i] ys[i] with
            | true =>
              rw [if_pos rfl]
              exact ih (i + 1) (by omega) (by omega) (by omega) (hall hb) ⟨L, B, s3, ra.mv mv, rb.mv mv⟩
            | false =>
              rw [if_neg Bool.false_ne_true]
              exact fin (hfalse hb) ⟨L, B, s3⟩
        · have e : i = ws.length := by omega
          have hne : false = eqL q xs ys := by
            rw [eqL, show (xs.length == ys.length) = false from by rw [beq_eq_false_iff_ne, ← ra.len, ← rb.len]; omega, Bool.false_and]
          rw [List.drop_of_length_le (show ws.length ≤ i by omega), List.drop_eq_getElem_cons h1]
          exact fin hne ⟨L, B, s⟩
      · rcases Nat.lt_or_ge i ws.length with h2 | h2
        · have hne : false = eqL q xs ys := by
            rw [eqL, show (xs.length == ys.length) = false from by rw [beq_eq_false_iff_ne, ← ra.len, ← rb.len]; omega, Bool.false_and]
          rw [List.drop_of_length_le h1, List.drop_eq_getElem_cons h2]
          exact fin hne ⟨L, B, s⟩
        · rw [List.drop_of_length_le h1, List.drop_of_length_le h2]
          refine fin ?_ ⟨L, B, s⟩
          have l1 : xs.length = i := by rw [← ra.len]; omega
          have l2 : ys.length = i := by rw [← rb.len]; omega
          have : (xs.zip ys).take i = xs.zip ys := List.take_of_length_le (by rw [List.length_zip]; omega)
          rw [this] at hq
          rw [eqL, hq, l1, l2, Bool.and_true, beq_self_eq_true]
  have := go _ 0 rfl (Nat.zero_le _) (Nat.zero_le _) rfl ⟨L, B, s2, ra, rb⟩
  rw [List.drop_zero, List.drop_zero] at this
  exact this
theorem notO_ {ta : TE} {f1 f2 : Addr} (h : GE c ρ n ds ta fun it ρ' n' => ∃ C fs b, it.val = .ins C fs ∧ ((HB.BoolCls K C f1 ∧ b = true) ∨ (HB.BoolCls K C f2 ∧ b = false)) ∧ Q (.v (.bl (!b))) ρ' n') : GE c ρ n ds (tNotO (fun x H Q => HB.rTruB K f1 true x H Q ∨ HB.rTruB K f2 false x H Q) ta) Q := fun σ H vs F s k =>
  h σ H vs _ s fun it ρ' n' x H' ⟨C, fs, b, e, hb, q⟩ ⟨L, B, s⟩ => by
    obtain ⟨B', lx, s2, mv, hx⟩ := s.it1
    obtain ⟨a, dx, fv, rfl, ha, rf⟩ := hx.ins s.sl e
    have fin := k _ _ _ _ _ q ⟨L, B', s2.pushR (.bl (!b))⟩
    rcases hb with ⟨hb, rfl⟩ | ⟨hb, rfl⟩
    · exact .inl ⟨a, C, dx, fv, rfl, ha, hb, fin⟩
    · exact .inr ⟨a, C, dx, fv, rfl, ha, hb, fin⟩
end
end HIn
/-! methods called by names alone; len(set(a list of integers)) -/
namespace HIn
open PySem PySem.Spec PyProof.Rows L2 HX
/-! one position, then names -/
def perm1 (idx : List Nat) {α : Type} (d : α) (us ws : List α) : List α := if us.length = 1 ∧ ws.length = idx.length then us ++ idx.map fun i => ws.getD i d else []
theorem kb_mk1 {K : PySem.W.Frag} {fd : FuncData} {ps ks : List Str} {idx : List Nat} (hp : (ps.length == 0) = false) (h : ∀ (u : Value) (ws : List Value), ws.length = idx.length → bindArgs fd ⟨[u], ks.zip ws⟩ = pure (ps.zip (u :: idx.map fun i => ws.getD i .none)))
    (hr : ∀ {vs zs : List V} {us ws : List Value}, Vals vs us → Vals zs ws → Vals (perm1 idx .non vs zs) (perm1 idx .none us ws)) : KBinds K fd ps ks (perm1 idx .none) (perm1 idx .non) := by
  refine ⟨fun s us ws _ hl => ?_, hr⟩
  unfold perm1 at hl ⊢
  by_cases z : us.length = 1 ∧ ws.length = idx.length
  · rw [if_pos z]
    match us, z.1 with
    | [u], _ => exact .of_eq (h u ws z.2)
  · rw [if_neg z] at hl
    have : ps.length = 0 := hl.symm
    rw [this] at hp
    cases hp
theorem perm1_rel {idx : List Nat} {vs zs : List V} {us ws : List Value} (r : Vals vs us) (rz : Vals zs ws) : Vals (perm1 idx .non vs zs) (perm1 idx .none us ws) := by
  unfold perm1
  rw [r.length, rz.length]
  by_cases h : us.length = 1 ∧ ws.length = idx.length
  · rw [if_pos h, if_pos h]
    match us, vs, r, h.1 with
    | [u], [v], .cons ru .nil, _ =>
      refine .cons ru ?_
      clear h
      induction idx with
      | nil => exact .nil
      | cons i t ih => exact .cons (HB.getD_rel rz i) ih
  · rw [if_neg h, if_neg h]
    exact .nil
def tMethK0 (C : Addr) (m : Str) (sp : Sp) (gV : List V → List V → List V) (E : XK) (ta : TE) (tk : TA) : TE := fun σ H Q => ta σ H fun x H1 => ∃ a dx fs, x = .ref a ∧ H1 a = some (.ins C dx fs) ∧ fs.lookup m = none ∧ tk σ H1 fun zs H2 => sp (gV [x] zs) H2 Q E
theorem pe_methK0 {X : Cx} {CX : CXT} {k : Nat} {C f : Addr} {fd : FuncData} {ps ks : List Str} {m : Str} {sp : Sp} {E : XK} {o : Expr} {kws : List Keyword} {ta : TE} {tk : TA} {apos pos : Pos} {pl : Sem Bool} {g : List Value → List Value → List Value} {gV : List V → List V → List V}
    (he : PE X o ta) (c : Cls X.K C) (hm : Meth X.K C m f) (F : FnOk X.prog X.w X.K X.mg X.base CX k f fd ps sp) (hr : Room k X.A) (hb : KBinds X.K fd ps ks g gV) (hx : Passes CX X E) (hkw : PK X kws tk)
    (hall : (backToKw pos (keywordEach kws X.env)).all (·.1.isSome) = true := by rfl) (hks : (backToKw pos (keywordEach kws X.env)).filterMap (·.1) = ks := by rfl)
    (hpl : ((backTo pos (starEach [] X.env)).any (·.1) || (backToKw pos (keywordEach kws X.env)).any (·.1.isNone)) = false := by rfl)
    (ht : eval (.Call (.Attribute o m apos) [] kws pos) X.env = (do
      let ov ← eval o X.env
      standAt apos.atName
      let (f, first) ← holding [ov] (getMethod ov m pl)
      callWith pos f first (backTo pos (starEach [] X.env)) (backToKw pos (keywordEach kws X.env))) := by rfl) :
    PE X (.Call (.Attribute o m apos) [] kws pos) (tMethK0 C m sp gV E ta tk) := by
  refine ⟨fun pins s σ H Q I h => ?_⟩
  refine PySem.W.methodCall_KW (pl := pl) (thn (he.run pins s σ H _ I h) fun u s1 ⟨x, H1, I1, rx, a, dx, fs, ex, ea, l, q⟩ => ?_) ht
  subst ex
  obtain rfl : u = Value.ref a := rx
  refine getmeth_ok I1 ea c hm l ?_
  refine PySem.W.callWith_KW0 (first := [.ref a]) (h₀ := X.base) I.ok.mod.kin hm.kp hall ?_ hpl
  refine thn (hkw.run pos pins s1 σ H1 _ I1 q) fun ws s2 ⟨zs, H2, I2, rz, q2⟩ => ⟨I2.kIn, ?_⟩
  rw [hks]
  exact run_fnk (us := [.ref a]) (vs := [.ref a]) F hr hb hx I2 (.cons rfl .nil) rz q2
/-! len(set(xs)) -/
def tLenSetA (K : PySem.W.Frag) (ta : TE) : TE := fun σ H Q => ta σ H fun x H1 => ∃ (l : Addr) (ns : List Int), x = .ref l ∧ SqL K H1 l (ns.map V.int) ∧ ns.length ≤ 4000 ∧ ∀ us : List Int, us.Nodup → (∀ k, k ∈ us ↔ k ∈ ns) → Q (.int (us.length : Nat)) H1
theorem getD_range (ns : List Int) : (List.range ns.length).map (fun i => ns.getD i 0) = ns := by
  apply List.ext_getElem
  · rw [List.length_map, List.length_range]
  · intro i h1 h2
    rw [List.getElem_map, List.getElem_range, List.getD_eq_getElem?_getD, List.getElem?_eq_getElem h2]
    rfl
theorem dedup_go (ns : List Int) : ∀ acc : List Int, acc.Nodup → (ns.foldl step_dedup acc).Nodup ∧ ∀ k, k ∈ ns.foldl step_dedup acc ↔ k ∈ acc ∨ k ∈ ns := by
  induction ns with
  | nil => intro acc h; exact ⟨h, fun k => by simp⟩
  | cons x ns ih =>
    intro acc h
    rw [List.foldl_cons]
    unfold step_dedup
    by_cases hx : acc.any (· == x) = true
    · have hm : x ∈ acc := by
        obtain ⟨y, hy, e⟩ := List.any_eq_true.mp hx
        have := eq_of_beq e
        rwa [this] at hy
      rw [if_pos hx]
      obtain ⟨h1, h2⟩ := ih acc h
      refine ⟨h1, fun k => (h2 k).trans ⟨fun z => z.elim .inl fun z => .inr (List.mem_cons_of_mem _ z), fun z => z.elim .inl fun z => ?_⟩⟩
      rcases List.mem_cons.mp z with rfl | z
      · exact .inl hm
      · exact .inr z
    · rw [if_neg hx]
      have hm : x ∉ acc := fun z => hx (List.any_eq_true.mpr ⟨x, z, beq_self_eq_true x⟩)
      have hn : (acc ++ [x]).Nodup := by
        rw [List.nodup_append]
        exact ⟨h, List.nodup_cons.mpr ⟨by simp, List.nodup_nil⟩, fun a ha b hb e => by rw [List.mem_singleton.mp hb] at e; rw [e] at ha; exact hm ha⟩
      obtain ⟨h1, h2⟩ := ih (acc ++ [x]) hn
      refine ⟨h1, fun k => (h2 k).trans ⟨fun z => z.elim (fun z => ?_) fun z => .inr (List.mem_cons_of_mem _ z), fun z => z.elim (fun z => .inl (List.mem_append_left _ z)) fun z => ?_⟩⟩
      · rcases List.mem_append.mp z with z | z
        · exact .inl z
        · rw [List.mem_singleton.mp z]; exact .inr (List.mem_cons_self ..)
      · rcases List.mem_cons.mp z with rfl | z
        · exact .inl (List.mem_append_right _ (List.mem_cons_self ..))
        · exact .inr z
theorem firstMet_dedup (ns : List Int) : (firstMet (fun i => ns.getD i 0) ns.length).Nodup ∧ ∀ k, k ∈ firstMet (fun i => ns.getD i 0) ns.length ↔ k ∈ ns := by
  unfold firstMet
  rw [getD_range]
  obtain ⟨h1, h2⟩ := dedup_go ns [] List.nodup_nil
  exact ⟨h1, fun k => (h2 k).trans ⟨fun z => z.elim (fun z => by cases z) id, .inr⟩⟩
theorem pe_lenSetA {X : Cx} {K : PySem.W.Frag} {a : Expr} {ta : TE} {p p2 q pos : Pos} (hg : Gl X "len") (hm : X.mg "len" = none) (hg2 : Gl X "set") (hm2 : X.mg "set" = none) (ha : PE X a ta) (hc : X.calm = true := by rfl)
    (na : starEach [a] X.env = (false, eval a X.env) :: starEach [] X.env := by rfl) (hK : X.K = K := by rfl) : PE X (.Call (.Name "len" p) [.Call (.Name "set" p2) [a] [] q] [] pos) (tLenSetA K ta) := by
  cases hK
  refine ⟨fun pins s σ H Q I h => ?_⟩
  refine Call_ (ld_blt I hg hm boot_len ?_)
  refine PyProof.Rows.callWith_builtin1 (PyProof.Rows.args_cons ?_ rfl) rfl rfl
  refine Call_ (ld_blt I hg2 hm2 boot_set ?_)
  refine PyProof.Rows.callWith_type1 (PyProof.Rows.args_cons (thn (ha.run pins s σ H _ I h) fun v s1 ⟨x, H1, I1, r1, q1⟩ => PyProof.Rows.args_nil ?_) na) na rfl
  obtain ⟨l, ns, rfl, hq, hl, q1⟩ := q1
  cases r1
  obtain ⟨its, r, pl, hz⟩ := I1.list hq
  have hlen : its.toArray.size = ns.length := by rw [List.size_toArray, ← r.length, List.length_map]
  refine call_set_list (I1.ok.hd hc) pl.isList (by simpa using RZ.intsAre_vals r) (by rw [hlen]; unfold scanBound; omega) fun h' tk hS hk => ?_
  refine PyProof.Rows.args_nil ?_
  rw [hlen] at hS
  obtain ⟨d1, d2⟩ := firstMet_dedup ns
  have hle : (firstMet (fun i => ns.getD i 0) ns.length).length ≤ ns.length := firstMet_length_le _ _
  have q2 := q1 _ d1 d2
  generalize firstMet (fun i => ns.getD i 0) ns.length = us at hS hle q2
  obtain ⟨o, es, ep, t, ho, hex, hd, _, _, _, hf, hn⟩ := hS
  have I2 : Inv X pins σ H1 { s1 with heap := h', toks := tk } := I1.kept fun b o e => hk b o (Heap.lt_size e) e
  exact call_len_set ho hex hd hf (by rw [hn] <;> omega) ⟨.int us.length, H1, I2.tok _, ⟨_, by rw [hn]⟩, q2⟩
open HD
section
variable {K : PySem.W.Frag} {c : Wd K} {ρ : List S} {n : Nat} {ds : List I} {Q : QI}
theorem lenSet_ {ta : TE} (h : GE c ρ n ds ta fun it ρ' n' => ∃ ns : List Int, it.val = .lst (ns.map D.int) ∧ ns.length ≤ 4000 ∧ ∀ us : List Int, us.Nodup → (∀ k, k ∈ us ↔ k ∈ ns) → Q (.v (.int (us.length : Nat))) ρ' n') : GE c ρ n ds (tLenSetA K ta) Q := fun σ H vs F s k =>
  h σ H vs _ s fun it ρ' n' x H' ⟨ns, e, hl, q⟩ ⟨L, B, s⟩ => by
    have s' := s
    obtain ⟨a, ws, rfl, ha, ra⟩ := s.ls e
    have hw := ra.ints
    subst hw
    exact ⟨a, ns, rfl, SqL.of ha, hl, fun us h1 h2 => k _ _ _ _ _ (q us h1 h2) ((St.pop ⟨L, B, s'⟩).pushS rfl)⟩
def permD1 (idx : List Nat) (xs ds : List D) : List D := if xs.length = 1 ∧ ds.length = idx.length then xs ++ idx.map fun i => ds.getD i .non else []
theorem RA.perm1 {g : Addr} {M : Addr → Prop} {H : Hp} {idx : List Nat} {us ws : List V} {xs ds : List D} (h0 : RA K g M H us xs) (h : RA K g M H ws ds) : RA K g M H (HIn.perm1 idx .non us ws) (permD1 idx xs ds) := by
  unfold HIn.perm1 permD1
  rw [h.len, h0.len]
  by_cases e : xs.length = 1 ∧ ds.length = idx.length
  · rw [if_pos e, if_pos e]
    refine h0.append ?_
    clear e
    induction idx with
    | nil => exact .nil
    | cons i t ih => exact .cons (h.getD i) ih
  · rw [if_neg e, if_neg e]; exact .nil
theorem methK_ {C : Addr} {m : Str} {sp : SpD} {idx : List Nat} {ta : TE} {t : TA} (h : GE c ρ n ds ta fun it ρ1 n1 => ∃ fs, it.val = .ins C fs ∧ fs.lookup m = none ∧ GA c ρ1 n1 (it :: ds) t fun its ρ2 n2 => sp (permD1 idx [.ins C fs] (its.map I.val)) n2 (fun i n3 => Q i (frz (it :: its) ρ2) n3) fun _ _ _ => False) :
    GE c ρ n ds (tMethK0 C m (lift K sp) (HIn.perm1 idx .non) E0 ta t) Q := fun σ H vs F s k =>
  h σ H vs _ s fun it ρ1 n1 x H1 ⟨fs, e, hm, q⟩ s1 => by
    have s1' := s1
    obtain ⟨L, B, s1⟩ := s1
    obtain ⟨B', lx, s2, mv, hx⟩ := s1.it1
    obtain ⟨a, dx, fv, rfl, ha, rf⟩ := hx.ins s1.sl e
    refine ⟨a, dx, fv, rfl, ha, HY.RF.none rf hm, ?_⟩
    refine q σ H1 (.ref a :: vs) _ s1' fun its ρ2 n2 ys H2 q2 hl s3 => ?_
    have s4 := St.rot' (is := its) (ws := ys) hl s3
    obtain ⟨L, B, s5, ra⟩ := items (is := it :: its) (ws := V.ref a :: ys) (by simp [hl]) s4
    cases ra with
    | cons ra0 rar =>
    refine ⟨⟨c.g, c.k, c.ns, Mo c (L ++ B), H2⟩, n2, _, _, _, ⟨rfl, s5.hat, .inl s5.mg, .inl s5.ml, s5.at, RA.perm1 (.cons ra0 .nil) rar, fun it m v H2 q2 k2 h2 r2 => ?_, fun C fs n' x H' (z : False) => z.elim⟩, by rw [e]; exact q2⟩
    cases it with
    | v d => exact k _ _ _ _ _ q2 ⟨L, B, (s5.kept k2 h2).pushR r2⟩
    | b _ _ => exact r2.elim
    | o ys =>
      obtain ⟨p, rfl, hp, np, rr⟩ := r2
      exact k _ _ _ _ _ q2 ⟨L, _, s5.ownNew k2 h2 hp rr⟩
/-! what a slot owns is made fast -/
theorem St.fz {σ : L2.St} {H : Hp} {vs : List V} {i : Nat} {d : D} (e : ρ[i]? = some (.ow d)) (s : St c ρ n ds σ H vs) : St c (ρ.set i (.v d)) n ds σ H vs := by
  have h := varO_ (c := c) (n := n) (ds := ds) (Q := fun it ρ' n' => it = .b i d ∧ ρ' = ρ ∧ n' = n) e ⟨rfl, rfl, rfl⟩ σ H vs (fun v H' => H' = H → St c (ρ.set i (.v d)) n ds σ H vs) s (fun it ρ' n' v H' ⟨e1, e2, e3⟩ s' eH => by
    subst e1 e2 e3 eH
    have s2 := s'.frz1
    have e4 : frz1 ρ' (.b i d) = ρ'.set i (.v d) := by simp only [frz1, e]
    rw [e4] at s2
    exact s2.pop)
  obtain ⟨x, _, hF⟩ := h
  exact hF rfl
theorem fz_ {t : TS} {D' : Es} (i : Nat) {d : D} (e : ρ[i]? = some (.ow d)) (h : GS c (ρ.set i (.v d)) n ds t D') : GS c ρ n ds t D' := fun σ H vs E s k => h σ H vs E (St.fz e s) k
end
end HIn
/-! a law whose own body calls repr, over a head by facts -/
namespace HHk
open PySem PySem.Spec PyProof.Rows L2
/-- a law whose own body calls repr of a list or tuple, over a head by facts -/
theorem walkGE {l : PySem.W.OpenLaw} {n k : Nat} {q : Program} {loose : List Str} {XP : (Str → Option Value) → Heap → Prop} {YP : World → Heap → Prop} {d : DefRec} {x : Str}
    (hn : l.most = some n) (hn2 : n ≤ sizeLine) (hdf : d.params.defaults = []) (hr : Room k callerA)
    (F : ∀ (w : World) (mg : Str → Option Value) (fa : Addr) (h : Heap), YP w h → h.Ns mainGlobals mg → mg d.name = some (.ref fa) →
      ∃ (K : PySem.W.Frag) (fd : FuncData) (sp : Sp), K.In h ∧ (∀ (s : Shared) (u : Value), BindsTo s fd ⟨[u], []⟩ [(x, u)]) ∧
        (∀ (H : Hp) (a : Addr) (ns : List Int), ns.length ≤ n → SqL K H a (ns.map V.int) → sp [.ref a] H (fun v _ => v = .bl true) fun _ _ _ => False) ∧
        ∀ base : Heap, K.In base → base.Ns mainGlobals mg → HV.FnG l.prog w K mg base k fa fd [x] sp) :
    PySem.W.WalkO q loose XP YP l.row.toRowW d [] (fun f vs => PySem.call f vs) := by
  refine Att.attach_call hn hdf fun w s₀ s mg mb fa o pm cd doc a vs ns G Y ho hd hcd hmg ha hi hl hg => ?_
  obtain ⟨K, fd, sp, KX, hb, hsp, hF⟩ := F w mg fa _ Y G.T.g hmg
  have rv := vals_ints hi
  have hl2 : ns.length ≤ sizeLine := Nat.le_trans hl hn2
  have go := fun H h1 h2 h3 h4 => HV.at_call (P := l.prog) (w := w) (K := K) (H := H) KX G.T.g G.T.b G.T.builtins G.T.nolimit hg ha hr hF hb h1 h2 h3 (hsp H a ns hl h4)
  by_cases hk : K.lookup a = none
  · refine go (fun b => if b = a then some (.frz { cls := .type "list", data := .seq vs.toArray } (.lst (ns.map V.int))) else none) (fun b => ?_) (fun b u z => ?_) (fun _ => hk) (.inl (.inr ⟨_, if_pos rfl⟩))
    · by_cases e : b = a
      · exact .inr ⟨e, _, _, if_pos e⟩
      · exact .inl (if_neg e)
    · by_cases e : b = a
      · cases (if_pos e).symm.trans z
        subst e
        exact ⟨ha, by rw [List.length_map]; exact hl2, vs, _, rv, ha⟩
      · cases (if_neg e).symm.trans z
  · obtain ⟨o, e⟩ := Option.ne_none_iff_exists'.mp hk
    have e2 := KX a o e
    rw [ha] at e2
    cases e2
    refine go (fun _ => none) (fun b => .inl rfl) (fun b u z => by cases (show (none : Option HO) = some u from z)) (fun z => absurd rfl z) (.inr ⟨_, vs.toArray, _, e, rfl, rfl, rfl, by rw [List.size_toArray, hi.length]; exact hl2, by simpa using rv⟩)
end HHk
/-! the words of a walk: hs one step, hr as many as go, hw the slots behind a wipe -/
local macro_rules | `(tactic| fail "h1") => `(tactic| with_reducible first
  | refine HX.seq_ ?_ | refine HX.asg_ ?_ | refine HX.op_ ?_ | refine HX.varS_ ?_ | refine HX.var0_ ?_ | refine HX.c_ ?_ | refine HX.gn0_ ?_ | refine HX.gnS_ ?_
  | refine HX.cons_ ?_ | refine HX.nil_ ?_ | refine HX.call_ ?_ | refine HX.cb_ ?_ | refine HX.ifS_ ?_ | refine HX.next_ ?_ | refine HX.ret_ ?_ | refine HX.drop_ ?_
  | refine HX.test_ ?_ | refine HX.b_ ?_ | refine HX.not_ ?_ | refine HX.and_ ?_ | refine HX.or_ ?_ | refine HX.notV_ ?_ | refine HX.andV_ ?_ | refine HX.orV_ ?_ | refine HX.if_ ?_
  | refine HX.i0_ ?_ | refine HX.add_int_ ?_ | refine HX.eq_int_ ?_ | refine HX.ne_int_ ?_ | refine HX.eq_bl_ ?_ | refine HX.ne_bl_ ?_ | refine HX.eq_str_ ?_ | refine HX.ne_str_ ?_
  | refine HX.un_ ?_ | refine HX.u_ ?_ | refine HX.tup_ ?_ | refine HX.lst_ ?_ | refine HX.ebl_ ?_ | refine HX.eint_ ?_ | refine HX.e1int_ ?_ | refine HX.e2int_ ?_
  | refine HX.isi_int_int ?_ | refine HX.isi_int_bool ?_ | refine HX.isi_bl_bool ?_ | refine HX.isi_bl_int ?_ | refine HX.int_int_ ?_ | refine HX.int_bl_ ?_
  | refine HX.par_ ?_ | refine HX.par3_ ?_ | refine HX.e2_ ?_ | refine HX.e3_ ?_ | refine HX.gcons_ ?_ | refine HX.gnil_ ?_ | refine HX.gsub_ ?_ | refine HX.enon_ ?_
  | refine HX.sl_ ?_ | refine HX.nopart_ ?_ | refine HX.part_ ?_ | refine HX.itup_ ?_ | refine HX.ilst_ ?_ | refine HX.irng1_ ?_ | refine HX.irng2_ ?_
  | refine HX.abs_ ?_ | refine HX.max2_ ?_ | refine HX.min2_ ?_ | refine HX.isN0_ ?_ | refine HX.isNi_ ?_ | refine HX.isNr_ ?_ | refine HX.isNs_ ?_ | refine HX.notN0_ ?_ | refine HX.notNi_ ?_ | refine HX.notNr_ ?_ | refine HX.notNs_ ?_
  | refine HX.for_ ?_ | refine HX.lc_ ?_ | refine HX.brk_ ?_ | refine HX.cont_ ?_ | refine HX.retN_ ?_ | refine HX.yes_ ?_)
local macro_rules | `(tactic| fail "h2") => `(tactic| first
  | ((with_reducible refine HX.iteT_ ?e ?_); (case e => (with_reducible rfl)))
  | ((with_reducible refine HX.iteF_ ?e ?_); (case e => (with_reducible rfl)))
  | ((with_reducible refine HX.iteT_ ?e ?_); (case e => first | rfl | (refine decide_eq_true ?_; first | assumption | omega)))
  | ((with_reducible refine HX.iteF_ ?e ?_); (case e => first | rfl | (refine decide_eq_false ?_; first | assumption | omega))))
local macro_rules | `(tactic| fail "h3") => `(tactic| first
  | ((with_reducible refine HX.i_ ?c ?_); (case c => first | (show (0 : Int) < _; omega) | (show HX.CMulU _ _; first | (refine HX.CMulU.l ?_; constructor <;> omega) | (refine HX.CMulU.r ?_; constructor <;> omega)) | (show L2.CDiv _ _; constructor <;> omega) | (show L2.CPow _ _; refine ⟨?_, ?_, ?_⟩ <;> omega)))
  | ((with_reducible refine HX.mod_ ?c ?_); (case c => omega))
  | ((with_reducible refine HX.sz_ ?c ?_); (case c => rfl)))
local macro_rules | `(tactic| fail "hu") => `(tactic| fail)
local macro_rules | `(tactic| fail "hs") => `(tactic| first | fail "h1" | fail "h3" | fail "h2" | fail "hu")
local macro_rules | `(tactic| fail "hr") => `(tactic| repeat (fail "hs"))
local macro_rules | `(tactic| fail "hw") => `(tactic| simp only [L2.wipe, List.map_cons, List.map_nil, List.set_cons_zero, List.set_cons_succ])
/-! the words of a walk on data: ds one step, dr as many as go, dn: what was stored is written out -/
local macro_rules | `(tactic| fail "dn") => `(tactic| dsimp only [HD.put, HD.frz, HD.frz1, HD.unset, HD.fin, HD.I.val, HD.fv, List.map, List.set_cons_zero, List.set_cons_succ, List.getElem?_cons_zero, List.getElem?_cons_succ, List.cons_append, List.nil_append])
local macro_rules | `(tactic| fail "gE") => `(tactic| (with_reducible show HD.GE _ _ _ _ _ _); first
  | ((with_reducible refine' HD.varV_ ?e ?_); (case e => rfl))
  | (with_reducible first | refine HD.cint_ ?_ | refine HD.op_ ?_ | refine HD.call_ ?_ | refine HQ.sortSet_ ?_ | refine HQT.sortSetA_ ?_ | refine HD.cb_ ?_ | refine HD.cstr_ ?_ | refine HD.fld_ ?_ | refine HD.tup_ ?_ | refine HD.lst_ ?_ | refine HD.if_ ?_ | refine HD.bm_ ?_ | refine HD.sl_ ?_ | refine HD.cbl_ ?_ | refine HD.cnon_ ?_ | refine HD.un_ ?_ | refine HD.andV_ ?_ | refine HD.orV_ ?_ | refine HD.notV_ ?_ | refine HD.chain_ ?_ | refine HD.ch_ ?_ | refine HD.cty_ ?_ | refine HD.cglo_ ?_ | refine HD.bm0_ ?_ | refine HD.rev_ ?_ | refine HD.cls_ ?_ | refine HD.name_ ?_ | refine HD.make_ ?_ | refine HD.lc_ ?_ | refine HY.meth_ ?_ | refine HY.bits_ ?_ | refine HLn.tupRg_ ?_ | refine HIn.notO_ ?_ | refine HIn.lenSet_ ?_ | refine HIn.methK_ ?_)
  | ((with_reducible refine' HD.lc2_ ?h ?_); (case h => rfl))
  | ((with_reducible refine' HD.varO_ ?e ?_); (case e => rfl))
  | ((with_reducible refine' HD.varM_ ?e ?_); (case e => rfl)))
local macro_rules | `(tactic| fail "gS") => `(tactic| (with_reducible show HD.GS _ _ _ _ _ _); first
  | (with_reducible first | refine HD.seq_ ?_ | refine HD.asgT_ ?_ | refine HD.asg_ ?_ | refine HD.ret_ ?_ | refine HD.ifS_ ?_ | refine HD.next_ ?_ | refine HD.drop_ ?_ | refine HD.retN_ ?_ | refine HD.brk_ ?_ | refine HD.cont_ ?_ | refine HD.par_ ?_ | refine HD.par3_ ?_ | refine HD.setM_ ?_ | refine HD.for_ ?_))
local macro_rules | `(tactic| fail "gA") => `(tactic| (with_reducible show HD.GA _ _ _ _ _ _); (with_reducible first | refine HD.cons_ ?_ | (refine HD.nil_ ?_; try fail "dn") | refine HY.star_ ?_))
local macro_rules | `(tactic| fail "gT") => `(tactic| (with_reducible show HD.GT _ _ _ _ _ _); (with_reducible first | refine HD.test_ ?_ | refine HD.and_ ?_ | refine HD.or_ ?_ | refine HD.not_ ?_ | refine HD.b_ ?_ | refine HD.yes_ ?_ | refine HD.ch2_ ?_))
local macro_rules | `(tactic| fail "gO") => `(tactic| (with_reducible show HD.GO _ _ _ _ _ _ _ _); first
  | (with_reducible first | refine HBt.xorN_ ?_ | refine HBt.orN_ ?_ | refine HBt.andN_ ?_ | refine HBt.and1_ ?_ | refine HBt.shr_ ?_)
  | ((with_reducible refine HBt.shl1_ ?b ?_); (case b => omega))
  | (with_reducible first | refine HD.iInt_ ?_ | refine HD.addI_ ?_ | refine HD.iBl_ ?_ | refine HD.eqI_ ?_ | refine HD.neI_ ?_ | refine HD.eqS_ ?_ | refine HD.neS_ ?_ | refine HD.isN_ ?_ | refine HD.notN_ ?_ | refine HD.eqB_ ?_ | refine HD.neB_ ?_ | refine HD.isB_ ?_ | refine HD.notB_ ?_)
  | ((with_reducible refine' HD.ix_ ?e ?i ?_); (case e => rfl); (case i => rfl))
  | ((with_reducible refine HD.mod_ ?c ?_); (case c => omega))
  | ((with_reducible refine HD.iC_ ?c ?_); (case c => first | (show (0 : Int) < _; omega) | (show (0 : Int) ≤ _; omega) | (show HX.CMulU _ _; first | (refine HX.CMulU.l ?_; constructor <;> omega) | (refine HX.CMulU.r ?_; constructor <;> omega)) | (show L2.CDiv _ _; constructor <;> omega) | (show L2.CPow _ _; refine ⟨?_, ?_, ?_⟩ <;> omega)))
  | fail "uO")
local macro_rules | `(tactic| fail "gB") => `(tactic| (with_reducible show HD.GB _ _ _ _ _ _ _); first
  | ((with_reducible refine' HD.len_ ?e ?_); (case e => rfl); (try fail "dn"))
  | ((with_reducible refine HD.isiInt_ ?e ?_); (case e => first | rfl | assumption); (try fail "dn"))
  | ((with_reducible refine HD.isiBool_ ?e ?_); (case e => first | rfl | assumption); (try fail "dn"))
  | ((with_reducible refine HD.isiStr_ ?e ?_); (case e => first | rfl | assumption); (try fail "dn"))
  | ((with_reducible refine HD.isiList_ ?e ?_); (case e => first | rfl | assumption); (try fail "dn"))
  | ((with_reducible refine HD.isiTup_ ?e ?_); (case e => first | rfl | assumption); (try fail "dn"))
  | (with_reducible first | refine HD.intI_ ?_ | refine HD.intB_ ?_ | refine HD.abs_ ?_ | refine HD.boolB_ ?_ | refine HD.max2_ ?_ | refine HD.min2_ ?_)
  | ((with_reducible refine' HD.isiO_ ?e ?p ?k ?_); (case e => rfl); (case p => fail "fpc"); (case k => fail "fki"))
  | ((with_reducible refine' HD.isiBO_ ?e ?k ?_); (case e => rfl); (case k => fail "fki"))
  | ((with_reducible refine' HD.isiOB_ ?e ?p ?k ?_); (case e => rfl); (case p => fail "fpc"); (case k => fail "fki"))
  | ((with_reducible refine' HY.isiQ_ ?e ?p ?k ?_); (case e => rfl); (case p => fail "fpb"); (case k => fail "fki"))
  | ((with_reducible refine' HS2.isiSq_ ?e ?_); (case e => first | rfl | assumption))
  | ((with_reducible refine HD.tupleOfT_ ?_))
  | ((with_reducible refine' HD.tupleOfL_ ?e ?_); (case e => rfl))
  | ((with_reducible refine' HD.listOf_ ?e ?_); (case e => rfl))
  | fail "uB")
local macro_rules | `(tactic| fail "gG") => `(tactic| (with_reducible show HD.GG _ _ _ _ _ _ _); first
  | ((with_reducible refine HD.gname_ ?c ?i ?_); (case c => rfl); (case i => rfl); (try fail "dn"))
  | ((with_reducible refine HD.gtup_ ?l ?_); (case l => rfl); (try fail "dn"))
  | ((with_reducible refine' HD.gunl_ ?e ?l ?_); (case e => rfl); (case l => rfl); (try fail "dn"))
  | (with_reducible refine HD.gsub_ ?_) | (with_reducible refine HY.gfld_ ?_))
local macro_rules | `(tactic| fail "gW") => `(tactic| (with_reducible show HD.GW _ _ _ _ _ _ _ _); first
  | ((with_reducible refine HD.wname_ ?c ?i ?o ?_); (case c => rfl); (case i => rfl); (case o => rfl); (try fail "dn"))
  | ((with_reducible refine HD.wnameO_ ?c ?i ?o ?_); (case c => rfl); (case i => rfl); (case o => rfl); (try fail "dn"))
  | ((with_reducible refine HD.wtup_ ?l ?_); (case l => rfl); (try fail "dn")))
local macro_rules | `(tactic| fail "gL") => `(tactic| (with_reducible show HD.GL _ _ _ _ _ _ _ _ _); first
  | ((with_reducible refine' HD.slL_ ?e ?_); (case e => rfl)) | (with_reducible refine HD.slT_ ?_) | fail "uL")
local macro_rules | `(tactic| fail "gI") => `(tactic| (with_reducible show HD.GI _ _ _ _ _ _); (with_reducible first | refine HD.ilst_ ?_ | refine HD.itup_ ?_ | refine HD.irng1_ ?_ | refine HD.irng2_ ?_ | refine HW.ien_ ?_ | refine HS2.iseq_ ?_))
local macro_rules | `(tactic| fail "gM") => `(tactic| (with_reducible show HD.GM _ _ _ _ _ _ _ _); first
  | ((with_reducible refine' HD.append_ ?c ?i ?l ?_); (case c => rfl); (case i => rfl); (case l => rfl); (try fail "dn"))
  | fail "uM")
local macro_rules | `(tactic| fail "uM") => `(tactic| fail)
local macro_rules | `(tactic| fail "gR") => `(tactic| with_reducible first
  | refine HD.gnil_ ?_ | refine HD.gcons_ ?_ | refine HD.wnil_ ?_ | refine HD.wcons_ ?_ | refine HD.u_ ?_ | refine HD.nopart_ ?_ | refine HD.part_ ?_
  | refine HD.chC_ ?_ | refine HD.chC2_ ?_ | refine HD.chL_ ?_ | refine HD.chL2_ ?_ | refine HD.forC_ ?_ | refine HD.forN_ ?_ | refine HD.cpC_ ?_ | refine HD.cpN_ ?_)
local macro_rules | `(tactic| fail "gP") => `(tactic| first
  | (with_reducible first | refine HD.exbl_ ?_ | refine HD.exint_ ?_ | refine HD.exv_ ?_ | refine HD.ex2_ ?_ | refine HD.ex3_ ?_ | refine HD.ex1int_ ?_ | refine HD.ex2int_ ?_ | refine HD.extup_ ?_ | refine HD.true_ ?_ | refine HD.exlstD_ ?_)
  | ((with_reducible refine HX.iteT_ ?e ?_); (case e => (with_reducible rfl)))
  | ((with_reducible refine HX.iteF_ ?e ?_); (case e => (with_reducible rfl)))
  | ((with_reducible refine HX.iteT_ ?e ?_); (case e => first | rfl | (refine decide_eq_true ?_; first | assumption | rfl | omega)))
  | ((with_reducible refine HX.iteF_ ?e ?_); (case e => first | rfl | (refine decide_eq_false ?_; first | assumption | omega)))
  | ((with_reducible refine HX.iteF_ ?e ?_); (case e => ((with_reducible refine HU.nd_ ?_); first | assumption | omega)))
  | ((with_reducible refine HX.iteT_ ?e ?_); (case e => ((with_reducible refine HU.nt_ ?_); first | assumption | omega)))
  | ((with_reducible refine HD.leneq_ ?e ?_); (case e => rfl); (try fail "dn"))
  | ((with_reducible refine HD.ble_ ?e ?_); (case e => rfl); (try fail "dn"))
  | ((with_reducible refine HD.cle_ ?e ?_); (case e => rfl); (try fail "dn"))
  | ((with_reducible refine HD.rngB_ ?e ?_); (case e => constructor <;> omega))
  | ((with_reducible refine HD.rngC_ ?e ?_); (case e => refine ⟨?_, ?_, ?_, ?_⟩ <;> omega))
  | ((with_reducible refine' HW.exen_ ?e ?_); (case e => rfl); (try fail "dn"))
  | ((with_reducible refine' HY.exseq_ ?e ?_); (case e => first | rfl | assumption); (try fail "dn"))
  | ((with_reducible refine' HY.exmeth_ ?e ?h ?_); (case e => rfl); (case h => rfl); (try fail "dn"))
  | (with_reducible refine HY.exbits_ ?_)
  | ((with_reducible refine HD.exty_ ?e ?_); (case e => rfl); (try fail "dn"))
  | ((with_reducible refine' HD.exlst_ ?e ?_); (case e => rfl); (try fail "dn"))
  | ((with_reducible refine' HD.exfld_ ?e ?a ?b ?l ?_); (case e => rfl); (case a => fail "fcl"); (case b => fail "fna"); (case l => first | rfl | assumption))
  | ((with_reducible refine' HD.exsetM_ ?e1 ?e2 ?e3 ?h1 ?h2 ?e4 ?_); (case e1 => rfl); (case e2 => rfl); (case e3 => rfl); (case h1 => fail "fcl"); (case h2 => fail "fna"); (case e4 => rfl); (try fail "dn")))
local macro_rules | `(tactic| fail "du") => `(tactic| fail)
local macro_rules | `(tactic| fail "uO") => `(tactic| fail)
local macro_rules | `(tactic| fail "uB") => `(tactic| fail)
local macro_rules | `(tactic| fail "uL") => `(tactic| fail)
local macro_rules | `(tactic| fail "fcl") => `(tactic| fail)
local macro_rules | `(tactic| fail "fna") => `(tactic| fail)
local macro_rules | `(tactic| fail "fpc") => `(tactic| fail)
local macro_rules | `(tactic| fail "fpb") => `(tactic| fail)
local macro_rules | `(tactic| fail "fki") => `(tactic| fail)
local macro_rules | `(tactic| fail "fhc") => `(tactic| fail)
local macro_rules | `(tactic| fail "ds") => `(tactic| first | fail "gE" | fail "gA" | fail "gO" | fail "gS" | fail "gT" | fail "gG" | fail "gB" | fail "gR" | fail "gP" | fail "gW" | fail "gM" | fail "gI" | fail "gL" | fail "du" | fail "dn")
local macro_rules | `(tactic| fail "rg") => `(tactic| (first | rw [HD.rngT1] | rw [HD.rngT2] | rw [HD.rngT3] | rw [HD.rngT4] | rw [HD.rngT5] | rw [HD.rngT6]))
local macro_rules | `(tactic| fail "dr") => `(tactic| repeat (fail "ds"))
namespace D60
open PySem PySem.Spec PyProof.Rows L2 HX
abbrev n_is_integer : List Str := ["value"]
theorem sc_is_integer : FnScope n_is_integer ["value"] (defScope s_is_integer) := ⟨rfl, rfl, rfl, by decide +kernel, rfl, by decide +kernel, by decide +kernel⟩
abbrev n_is_within : List Str := ["value", "least", "most"]
theorem sc_is_within : FnScope n_is_within ["value", "least", "most"] (defScope s_is_within) := ⟨rfl, rfl, rfl, by decide +kernel, rfl, by decide +kernel, by decide +kernel⟩
abbrev n_is_row : List Str := ["value", "part"]
theorem sc_is_row : FnScope n_is_row ["value"] (defScope s_is_row) := ⟨rfl, rfl, rfl, by decide +kernel, rfl, by decide +kernel, by decide +kernel⟩
abbrev n_are_bits : List Str := ["value", "bit"]
theorem sc_are_bits : FnScope n_are_bits ["value"] (defScope s_are_bits) := ⟨rfl, rfl, rfl, by decide +kernel, rfl, by decide +kernel, by decide +kernel⟩
abbrev n_all_rows : List Str := ["places", "rows", "_", "row", "bit"]
theorem sc_all_rows : FnScope n_all_rows ["places"] (defScope s_all_rows) := ⟨rfl, rfl, rfl, by decide +kernel, rfl, by decide +kernel, by decide +kernel⟩
abbrev n_cases_told : List Str := ["value", "places", "found", "pair", "row", "outcome"]
theorem sc_cases_told : FnScope n_cases_told ["value", "places"] (defScope s_cases_told) := ⟨rfl, rfl, rfl, by decide +kernel, rfl, by decide +kernel, by decide +kernel⟩
abbrev n_need_each_once : List Str := ["values", "at", "value"]
theorem sc_need_each_once : FnScope n_need_each_once ["values"] (defScope s_need_each_once) := ⟨rfl, rfl, rfl, by decide +kernel, rfl, by decide +kernel, by decide +kernel⟩
abbrev n_Book_init : List Str := ["self", "places", "cases", "found", "row", "_", "rows", "outcome"]
theorem sc_Book_init : FnScope n_Book_init ["self", "places", "cases"] (defScope s_Book_init) := ⟨rfl, rfl, rfl, by decide +kernel, rfl, by decide +kernel, by decide +kernel⟩
abbrev n_Book_len : List Str := ["self"]
theorem sc_Book_len : FnScope n_Book_len ["self"] (defScope s_Book_len) := ⟨rfl, rfl, rfl, by decide +kernel, rfl, by decide +kernel, by decide +kernel⟩
abbrev n_Book_eq : List Str := ["self", "other"]
theorem sc_Book_eq : FnScope n_Book_eq ["self", "other"] (defScope s_Book_eq) := ⟨rfl, rfl, rfl, by decide +kernel, rfl, by decide +kernel, by decide +kernel⟩
abbrev n_Book_with_case : List Str := ["self", "row", "outcome"]
theorem sc_Book_with_case : FnScope n_Book_with_case ["self", "row", "outcome"] (defScope s_Book_with_case) := ⟨rfl, rfl, rfl, by decide +kernel, rfl, by decide +kernel, by decide +kernel⟩
abbrev n_need_book : List Str := ["value", "part"]
theorem sc_need_book : FnScope n_need_book ["value", "part"] (defScope s_need_book) := ⟨rfl, rfl, rfl, by decide +kernel, rfl, by decide +kernel, by decide +kernel⟩
abbrev n_need_places : List Str := ["book", "row"]
theorem sc_need_places : FnScope n_need_places ["book", "row"] (defScope s_need_places) := ⟨rfl, rfl, rfl, by decide +kernel, rfl, by decide +kernel, by decide +kernel⟩
abbrev n_need_row_of : List Str := ["book", "row"]
theorem sc_need_row_of : FnScope n_need_row_of ["book", "row"] (defScope s_need_row_of) := ⟨rfl, rfl, rfl, by decide +kernel, rfl, by decide +kernel, by decide +kernel⟩
abbrev n_fixed : List Str := ["value", "part"]
theorem sc_fixed : FnScope n_fixed ["value"] (defScope s_fixed) := ⟨rfl, rfl, rfl, by decide +kernel, rfl, by decide +kernel, by decide +kernel⟩
abbrev n_Paper_init : List Str := ["self", "word", "parts"]
theorem sc_Paper_init : FnScope n_Paper_init ["self", "word", "parts"] (defScope s_Paper_init) := ⟨rfl, rfl, rfl, by decide +kernel, rfl, by decide +kernel, by decide +kernel⟩
abbrev n_Paper_eq : List Str := ["self", "other"]
theorem sc_Paper_eq : FnScope n_Paper_eq ["self", "other"] (defScope s_Paper_eq) := ⟨rfl, rfl, rfl, by decide +kernel, rfl, by decide +kernel, by decide +kernel⟩
abbrev n_is_bits : List Str := ["value", "bit"]
theorem sc_is_bits : FnScope n_is_bits ["value"] (defScope s_is_bits) := ⟨rfl, rfl, rfl, by decide +kernel, rfl, by decide +kernel, by decide +kernel⟩
abbrev n_need_bits : List Str := ["value", "part"]
theorem sc_need_bits : FnScope n_need_bits ["value", "part"] (defScope s_need_bits) := ⟨rfl, rfl, rfl, by decide +kernel, rfl, by decide +kernel, by decide +kernel⟩
abbrev n_Adder_init : List Str := ["self", "places", "constant", "__class__"]
theorem sc_Adder_init : NdefX.NScope n_Adder_init ["self", "places", "constant"] ["__class__"] (defScope s_Adder_init) := NdefX.nscope_by (by decide +kernel)
abbrev n_Adder_outcome : List Str := ["self", "row", "place"]
theorem sc_Adder_outcome : FnScope n_Adder_outcome ["self", "row"] (defScope s_Adder_outcome) := ⟨rfl, rfl, rfl, by decide +kernel, rfl, by decide +kernel, by decide +kernel⟩
abbrev n_is_adder : List Str := ["value", "place"]
theorem sc_is_adder : FnScope n_is_adder ["value"] (defScope s_is_adder) := ⟨rfl, rfl, rfl, by decide +kernel, rfl, by decide +kernel, by decide +kernel⟩
abbrev n_need_adder : List Str := ["value"]
theorem sc_need_adder : FnScope n_need_adder ["value"] (defScope s_need_adder) := ⟨rfl, rfl, rfl, by decide +kernel, rfl, by decide +kernel, by decide +kernel⟩
abbrev n_added : List Str := ["adder", "row", "place"]
theorem sc_added : FnScope n_added ["adder", "row"] (defScope s_added) := ⟨rfl, rfl, rfl, by decide +kernel, rfl, by decide +kernel, by decide +kernel⟩
abbrev n_Fits_init : List Str := ["self", "adder", "__class__"]
theorem sc_Fits_init : NdefX.NScope n_Fits_init ["self", "adder"] ["__class__"] (defScope s_Fits_init) := NdefX.nscope_by (by decide +kernel)
abbrev n_Quarrel_init : List Str := ["self", "numbers", "__class__"]
theorem sc_Quarrel_init : NdefX.NScope n_Quarrel_init ["self", "numbers"] ["__class__"] (defScope s_Quarrel_init) := NdefX.nscope_by (by decide +kernel)
abbrev n_Forced_init : List Str := ["self", "outcome", "numbers", "__class__"]
theorem sc_Forced_init : NdefX.NScope n_Forced_init ["self", "outcome", "numbers"] ["__class__"] (defScope s_Forced_init) := NdefX.nscope_by (by decide +kernel)
abbrev n_Open_init : List Str := ["self", "one", "other", "__class__"]
theorem sc_Open_init : NdefX.NScope n_Open_init ["self", "one", "other"] ["__class__"] (defScope s_Open_init) := NdefX.nscope_by (by decide +kernel)
abbrev n_vector_of : List Str := ["row", "place", "bit"]
theorem sc_vector_of : FnScope n_vector_of ["row"] (defScope s_vector_of) := ⟨rfl, rfl, rfl, by decide +kernel, rfl, by decide +kernel, by decide +kernel⟩
abbrev n_numbers_in : List Str := ["lot", "number"]
theorem sc_numbers_in : FnScope n_numbers_in ["lot"] (defScope s_numbers_in) := ⟨rfl, rfl, rfl, by decide +kernel, rfl, by decide +kernel, by decide +kernel⟩
abbrev n_reduced : List Str := ["base", "vector", "taken", "total", "head", "part", "lot", "outcome"]
theorem sc_reduced : FnScope n_reduced ["base", "vector"] (defScope s_reduced) := ⟨rfl, rfl, rfl, by decide +kernel, rfl, by decide +kernel, by decide +kernel⟩
abbrev n_wider : List Str := ["base", "left", "lot", "outcome"]
theorem sc_wider : FnScope n_wider ["base", "left", "lot", "outcome"] (defScope s_wider) := ⟨rfl, rfl, rfl, by decide +kernel, rfl, by decide +kernel, by decide +kernel⟩
abbrev n_base_of : List Str := ["book", "base", "number", "row", "outcome", "left", "taken", "total"]
theorem sc_base_of : FnScope n_base_of ["book"] (defScope s_base_of) := ⟨rfl, rfl, rfl, by decide +kernel, rfl, by decide +kernel, by decide +kernel⟩
abbrev n_adder_by : List Str := ["base", "places", "found", "head", "vector", "_", "outcome", "place"]
theorem sc_adder_by : FnScope n_adder_by ["base", "places"] (defScope s_adder_by) := ⟨rfl, rfl, rfl, by decide +kernel, rfl, by decide +kernel, by decide +kernel⟩
abbrev n_possible_base : List Str := ["book", "base", "numbers"]
theorem sc_possible_base : FnScope n_possible_base ["book"] (defScope s_possible_base) := ⟨rfl, rfl, rfl, by decide +kernel, rfl, by decide +kernel, by decide +kernel⟩
abbrev n_quarrel : List Str := ["book", "base", "numbers"]
theorem sc_quarrel : FnScope n_quarrel ["book"] (defScope s_quarrel) := ⟨rfl, rfl, rfl, by decide +kernel, rfl, by decide +kernel, by decide +kernel⟩
abbrev n_word_of : List Str := ["book", "row", "base", "left", "taken", "total", "outcome", "bases"]
theorem sc_word_of : FnScope n_word_of ["book", "row"] (defScope s_word_of) := ⟨rfl, rfl, rfl, by decide +kernel, rfl, by decide +kernel, by decide +kernel⟩
abbrev n_all_adders : List Str := ["places", "place", "bit", "row", "lots", "lot", "constant"]
theorem sc_all_adders : FnScope n_all_adders ["places"] (defScope s_all_adders) := ⟨rfl, rfl, rfl, by decide +kernel, rfl, by decide +kernel, by decide +kernel⟩
abbrev n_wrong_at : List Str := ["adder", "book", "number", "row", "outcome"]
theorem sc_wrong_at : FnScope n_wrong_at ["adder", "book"] (defScope s_wrong_at) := ⟨rfl, rfl, rfl, by decide +kernel, rfl, by decide +kernel, by decide +kernel⟩
abbrev n_fitting : List Str := ["book", "adder"]
theorem sc_fitting : FnScope n_fitting ["book"] (defScope s_fitting) := ⟨rfl, rfl, rfl, by decide +kernel, rfl, by decide +kernel, by decide +kernel⟩
abbrev n__law_well : List Str := ["script", "cell"]
theorem sc__law_well : FnScope n__law_well ["script"] (defScope s__law_well) := ⟨rfl, rfl, rfl, by decide +kernel, rfl, by decide +kernel, by decide +kernel⟩
abbrev n__law_sip : List Str := ["well", "many", "rest", "turn", "cell", "mixed"]
theorem sc__law_sip : FnScope n__law_sip ["well", "many"] (defScope s__law_sip) := ⟨rfl, rfl, rfl, by decide +kernel, rfl, by decide +kernel, by decide +kernel⟩
abbrev n__law_pick : List Str := ["well", "some"]
theorem sc__law_pick : FnScope n__law_pick ["well", "some"] (defScope s__law_pick) := ⟨rfl, rfl, rfl, by decide +kernel, rfl, by decide +kernel, by decide +kernel⟩
abbrev n__law_rows : List Str := ["places", "at", "number"]
theorem sc__law_rows : FnScope n__law_rows ["places"] (defScope s__law_rows) := ⟨rfl, rfl, rfl, by decide +kernel, rfl, by decide +kernel, by decide +kernel⟩
abbrev n__law_adders : List Str := ["places", "at", "row", "lots", "found", "lot"]
theorem sc__law_adders : FnScope n__law_adders ["places"] (defScope s__law_adders) := ⟨rfl, rfl, rfl, by decide +kernel, rfl, by decide +kernel, by decide +kernel⟩
abbrev n__law_gives : List Str := ["adder", "row", "place"]
theorem sc__law_gives : FnScope n__law_gives ["adder", "row"] (defScope s__law_gives) := ⟨rfl, rfl, rfl, by decide +kernel, rfl, by decide +kernel, by decide +kernel⟩
abbrev n__law_fits : List Str := ["places", "cases", "adder", "row", "outcome"]
theorem sc__law_fits : FnScope n__law_fits ["places", "cases"] (defScope s__law_fits) := ⟨rfl, rfl, rfl, by decide +kernel, rfl, by decide +kernel, by decide +kernel⟩
abbrev n_law : List Str := ["script", "well", "places", "adder", "left", "cases", "at", "row", "book", "fits", "one", "fit", "parting", "told", "both", "right", "wrong", "torn", "outcome", "due", "found"]
theorem sc_law : FnScope n_law ["script"] (defScope s_law) := ⟨rfl, rfl, rfl, by decide +kernel, rfl, by decide +kernel, by decide +kernel⟩
structure Tx (P : Program) (K : PySem.W.Frag) (mg : Str → Option Value) where
  f_is_integer : Addr
  fd_is_integer : FuncData
  F_is_integer : Fun K "is_integer" "is_integer" s_is_integer f_is_integer fd_is_integer
  g_is_integer : mg "is_integer" = some (.ref f_is_integer)
  b_is_integer : Binds K fd_is_integer ["value"] []
  f_is_within : Addr
  fd_is_within : FuncData
  F_is_within : Fun K "is_within" "is_within" s_is_within f_is_within fd_is_within
  g_is_within : mg "is_within" = some (.ref f_is_within)
  b_is_within : Binds K fd_is_within ["value", "least", "most"] []
  f_is_row : Addr
  fd_is_row : FuncData
  F_is_row : Fun K "is_row" "is_row" s_is_row f_is_row fd_is_row
  g_is_row : mg "is_row" = some (.ref f_is_row)
  b_is_row : Binds K fd_is_row ["value"] []
  f_are_bits : Addr
  fd_are_bits : FuncData
  F_are_bits : Fun K "are_bits" "are_bits" s_are_bits f_are_bits fd_are_bits
  g_are_bits : mg "are_bits" = some (.ref f_are_bits)
  b_are_bits : Binds K fd_are_bits ["value"] []
  f_all_rows : Addr
  fd_all_rows : FuncData
  F_all_rows : Fun K "all_rows" "all_rows" s_all_rows f_all_rows fd_all_rows
  g_all_rows : mg "all_rows" = some (.ref f_all_rows)
  b_all_rows : Binds K fd_all_rows ["places"] []
  f_cases_told : Addr
  fd_cases_told : FuncData
  F_cases_told : Fun K "cases_told" "cases_told" s_cases_told f_cases_told fd_cases_told
  g_cases_told : mg "cases_told" = some (.ref f_cases_told)
  b_cases_told : Binds K fd_cases_told ["value", "places"] []
  f_need_each_once : Addr
  fd_need_each_once : FuncData
  F_need_each_once : Fun K "need_each_once" "need_each_once" s_need_each_once f_need_each_once fd_need_each_once
  g_need_each_once : mg "need_each_once" = some (.ref f_need_each_once)
  b_need_each_once : Binds K fd_need_each_once ["values"] []
  f_Book_init : Addr
  fd_Book_init : FuncData
  dv_Book_init : List V
  F_Book_init : FunD K "__init__" "Book.__init__" (defArgs s_Book_init) (defBody s_Book_init) (defScope s_Book_init) dv_Book_init [] f_Book_init fd_Book_init
  b_Book_init : Binds K fd_Book_init ["self", "places", "cases"] []
  f_Book_len : Addr
  fd_Book_len : FuncData
  F_Book_len : Fun K "__len__" "Book.__len__" s_Book_len f_Book_len fd_Book_len
  b_Book_len : Binds K fd_Book_len ["self"] []
  f_Book_eq : Addr
  fd_Book_eq : FuncData
  F_Book_eq : Fun K "__eq__" "Book.__eq__" s_Book_eq f_Book_eq fd_Book_eq
  b_Book_eq : Binds K fd_Book_eq ["self", "other"] []
  f_Book_with_case : Addr
  fd_Book_with_case : FuncData
  F_Book_with_case : Fun K "with_case" "Book.with_case" s_Book_with_case f_Book_with_case fd_Book_with_case
  b_Book_with_case : Binds K fd_Book_with_case ["self", "row", "outcome"] []
  f_need_book : Addr
  fd_need_book : FuncData
  F_need_book : Fun K "need_book" "need_book" s_need_book f_need_book fd_need_book
  g_need_book : mg "need_book" = some (.ref f_need_book)
  b_need_book : Binds K fd_need_book ["value", "part"] []
  f_need_places : Addr
  fd_need_places : FuncData
  F_need_places : Fun K "need_places" "need_places" s_need_places f_need_places fd_need_places
  g_need_places : mg "need_places" = some (.ref f_need_places)
  b_need_places : Binds K fd_need_places ["book", "row"] []
  f_need_row_of : Addr
  fd_need_row_of : FuncData
  F_need_row_of : Fun K "need_row_of" "need_row_of" s_need_row_of f_need_row_of fd_need_row_of
  g_need_row_of : mg "need_row_of" = some (.ref f_need_row_of)
  b_need_row_of : Binds K fd_need_row_of ["book", "row"] []
  f_fixed : Addr
  fd_fixed : FuncData
  F_fixed : Fun K "fixed" "fixed" s_fixed f_fixed fd_fixed
  g_fixed : mg "fixed" = some (.ref f_fixed)
  b_fixed : Binds K fd_fixed ["value"] []
  f_Paper_init : Addr
  f_Paper_eq : Addr
  fd_Paper_eq : FuncData
  F_Paper_eq : Fun K "__eq__" "Paper.__eq__" s_Paper_eq f_Paper_eq fd_Paper_eq
  b_Paper_eq : Binds K fd_Paper_eq ["self", "other"] []
  f_is_bits : Addr
  fd_is_bits : FuncData
  F_is_bits : Fun K "is_bits" "is_bits" s_is_bits f_is_bits fd_is_bits
  g_is_bits : mg "is_bits" = some (.ref f_is_bits)
  b_is_bits : Binds K fd_is_bits ["value"] []
  f_need_bits : Addr
  fd_need_bits : FuncData
  F_need_bits : Fun K "need_bits" "need_bits" s_need_bits f_need_bits fd_need_bits
  g_need_bits : mg "need_bits" = some (.ref f_need_bits)
  b_need_bits : Binds K fd_need_bits ["value", "part"] []
  f_Adder_init : Addr
  f_Adder_outcome : Addr
  fd_Adder_outcome : FuncData
  F_Adder_outcome : Fun K "outcome" "Adder.outcome" s_Adder_outcome f_Adder_outcome fd_Adder_outcome
  b_Adder_outcome : Binds K fd_Adder_outcome ["self", "row"] []
  f_is_adder : Addr
  fd_is_adder : FuncData
  F_is_adder : Fun K "is_adder" "is_adder" s_is_adder f_is_adder fd_is_adder
  g_is_adder : mg "is_adder" = some (.ref f_is_adder)
  b_is_adder : Binds K fd_is_adder ["value"] []
  f_need_adder : Addr
  fd_need_adder : FuncData
  F_need_adder : Fun K "need_adder" "need_adder" s_need_adder f_need_adder fd_need_adder
  g_need_adder : mg "need_adder" = some (.ref f_need_adder)
  b_need_adder : Binds K fd_need_adder ["value"] []
  f_added : Addr
  fd_added : FuncData
  F_added : Fun K "added" "added" s_added f_added fd_added
  g_added : mg "added" = some (.ref f_added)
  b_added : Binds K fd_added ["adder", "row"] []
  f_Fits_init : Addr
  f_Quarrel_init : Addr
  f_Forced_init : Addr
  f_Open_init : Addr
  f_vector_of : Addr
  fd_vector_of : FuncData
  F_vector_of : Fun K "vector_of" "vector_of" s_vector_of f_vector_of fd_vector_of
  g_vector_of : mg "vector_of" = some (.ref f_vector_of)
  b_vector_of : Binds K fd_vector_of ["row"] []
  f_numbers_in : Addr
  fd_numbers_in : FuncData
  F_numbers_in : Fun K "numbers_in" "numbers_in" s_numbers_in f_numbers_in fd_numbers_in
  g_numbers_in : mg "numbers_in" = some (.ref f_numbers_in)
  b_numbers_in : Binds K fd_numbers_in ["lot"] []
  f_reduced : Addr
  fd_reduced : FuncData
  F_reduced : Fun K "reduced" "reduced" s_reduced f_reduced fd_reduced
  g_reduced : mg "reduced" = some (.ref f_reduced)
  b_reduced : Binds K fd_reduced ["base", "vector"] []
  f_wider : Addr
  fd_wider : FuncData
  F_wider : Fun K "wider" "wider" s_wider f_wider fd_wider
  g_wider : mg "wider" = some (.ref f_wider)
  b_wider : Binds K fd_wider ["base", "left", "lot", "outcome"] []
  f_base_of : Addr
  fd_base_of : FuncData
  F_base_of : Fun K "base_of" "base_of" s_base_of f_base_of fd_base_of
  g_base_of : mg "base_of" = some (.ref f_base_of)
  b_base_of : Binds K fd_base_of ["book"] []
  f_adder_by : Addr
  fd_adder_by : FuncData
  F_adder_by : Fun K "adder_by" "adder_by" s_adder_by f_adder_by fd_adder_by
  g_adder_by : mg "adder_by" = some (.ref f_adder_by)
  b_adder_by : Binds K fd_adder_by ["base", "places"] []
  f_possible_base : Addr
  fd_possible_base : FuncData
  F_possible_base : Fun K "possible_base" "possible_base" s_possible_base f_possible_base fd_possible_base
  g_possible_base : mg "possible_base" = some (.ref f_possible_base)
  b_possible_base : Binds K fd_possible_base ["book"] []
  f_quarrel : Addr
  fd_quarrel : FuncData
  F_quarrel : Fun K "quarrel" "quarrel" s_quarrel f_quarrel fd_quarrel
  g_quarrel : mg "quarrel" = some (.ref f_quarrel)
  b_quarrel : Binds K fd_quarrel ["book"] []
  f_word_of : Addr
  fd_word_of : FuncData
  F_word_of : Fun K "word_of" "word_of" s_word_of f_word_of fd_word_of
  g_word_of : mg "word_of" = some (.ref f_word_of)
  b_word_of : Binds K fd_word_of ["book", "row"] []
  f_all_adders : Addr
  fd_all_adders : FuncData
  F_all_adders : Fun K "all_adders" "all_adders" s_all_adders f_all_adders fd_all_adders
  g_all_adders : mg "all_adders" = some (.ref f_all_adders)
  b_all_adders : Binds K fd_all_adders ["places"] []
  f_wrong_at : Addr
  fd_wrong_at : FuncData
  F_wrong_at : Fun K "wrong_at" "wrong_at" s_wrong_at f_wrong_at fd_wrong_at
  g_wrong_at : mg "wrong_at" = some (.ref f_wrong_at)
  b_wrong_at : Binds K fd_wrong_at ["adder", "book"] []
  f_fitting : Addr
  fd_fitting : FuncData
  F_fitting : Fun K "fitting" "fitting" s_fitting f_fitting fd_fitting
  g_fitting : mg "fitting" = some (.ref f_fitting)
  b_fitting : Binds K fd_fitting ["book"] []
  f__law_well : Addr
  fd__law_well : FuncData
  F__law_well : Fun K "_law_well" "_law_well" s__law_well f__law_well fd__law_well
  g__law_well : mg "_law_well" = some (.ref f__law_well)
  b__law_well : Binds K fd__law_well ["script"] []
  f__law_sip : Addr
  fd__law_sip : FuncData
  F__law_sip : Fun K "_law_sip" "_law_sip" s__law_sip f__law_sip fd__law_sip
  g__law_sip : mg "_law_sip" = some (.ref f__law_sip)
  b__law_sip : Binds K fd__law_sip ["well", "many"] []
  f__law_pick : Addr
  fd__law_pick : FuncData
  F__law_pick : Fun K "_law_pick" "_law_pick" s__law_pick f__law_pick fd__law_pick
  g__law_pick : mg "_law_pick" = some (.ref f__law_pick)
  b__law_pick : Binds K fd__law_pick ["well", "some"] []
  f__law_rows : Addr
  fd__law_rows : FuncData
  F__law_rows : Fun K "_law_rows" "_law_rows" s__law_rows f__law_rows fd__law_rows
  g__law_rows : mg "_law_rows" = some (.ref f__law_rows)
  b__law_rows : Binds K fd__law_rows ["places"] []
  f__law_adders : Addr
  fd__law_adders : FuncData
  F__law_adders : Fun K "_law_adders" "_law_adders" s__law_adders f__law_adders fd__law_adders
  g__law_adders : mg "_law_adders" = some (.ref f__law_adders)
  b__law_adders : Binds K fd__law_adders ["places"] []
  f__law_gives : Addr
  fd__law_gives : FuncData
  F__law_gives : Fun K "_law_gives" "_law_gives" s__law_gives f__law_gives fd__law_gives
  g__law_gives : mg "_law_gives" = some (.ref f__law_gives)
  b__law_gives : Binds K fd__law_gives ["adder", "row"] []
  f__law_fits : Addr
  fd__law_fits : FuncData
  F__law_fits : Fun K "_law_fits" "_law_fits" s__law_fits f__law_fits fd__law_fits
  g__law_fits : mg "_law_fits" = some (.ref f__law_fits)
  b__law_fits : Binds K fd__law_fits ["places", "cases"] []
  f_law : Addr
  fd_law : FuncData
  F_law : Fun K "law" "law" s_law f_law fd_law
  g_law : mg "law" = some (.ref f_law)
  b_law : Binds K fd_law ["script"] []
  C_Book : Addr
  g_Book : mg "Book" = some (.ref C_Book)
  C_Paper : Addr
  g_Paper : mg "Paper" = some (.ref C_Paper)
  C_Adder : Addr
  g_Adder : mg "Adder" = some (.ref C_Adder)
  C_Fits : Addr
  g_Fits : mg "Fits" = some (.ref C_Fits)
  C_Denial : Addr
  g_Denial : mg "Denial" = some (.ref C_Denial)
  C_Quarrel : Addr
  g_Quarrel : mg "Quarrel" = some (.ref C_Quarrel)
  C_Forced : Addr
  g_Forced : mg "Forced" = some (.ref C_Forced)
  C_Open : Addr
  g_Open : mg "Open" = some (.ref C_Open)
  SF_Paper_init : HC.StarFun K "__init__" "Paper.__init__" s_Paper_init f_Paper_init ["self", "word"] "parts"
  cc_Adder_init : Addr
  ca_Adder_init : Addr
  SD_Adder_init : HS.SupDef P K mg ⟨"__init__", "Adder.__init__", defArgs s_Adder_init, defBody s_Adder_init, defScope s_Adder_init, [("__class__", cc_Adder_init)], ca_Adder_init⟩ f_Adder_init C_Adder cc_Adder_init
  cc_Fits_init : Addr
  ca_Fits_init : Addr
  SD_Fits_init : HS.SupDef P K mg ⟨"__init__", "Fits.__init__", defArgs s_Fits_init, defBody s_Fits_init, defScope s_Fits_init, [("__class__", cc_Fits_init)], ca_Fits_init⟩ f_Fits_init C_Fits cc_Fits_init
  cc_Quarrel_init : Addr
  ca_Quarrel_init : Addr
  SD_Quarrel_init : HS.SupDef P K mg ⟨"__init__", "Quarrel.__init__", defArgs s_Quarrel_init, defBody s_Quarrel_init, defScope s_Quarrel_init, [("__class__", cc_Quarrel_init)], ca_Quarrel_init⟩ f_Quarrel_init C_Quarrel cc_Quarrel_init
  cc_Forced_init : Addr
  ca_Forced_init : Addr
  SD_Forced_init : HS.SupDef P K mg ⟨"__init__", "Forced.__init__", defArgs s_Forced_init, defBody s_Forced_init, defScope s_Forced_init, [("__class__", cc_Forced_init)], ca_Forced_init⟩ f_Forced_init C_Forced cc_Forced_init
  cc_Open_init : Addr
  ca_Open_init : Addr
  SD_Open_init : HS.SupDef P K mg ⟨"__init__", "Open.__init__", defArgs s_Open_init, defBody s_Open_init, defScope s_Open_init, [("__class__", cc_Open_init)], ca_Open_init⟩ f_Open_init C_Open cc_Open_init
  mk_Book : Mk K C_Book f_Book_init
  pb_Book : HY.PB K C_Book "Book"
  me_Book_with_case : Meth K C_Book "with_case" f_Book_with_case
  me_Book___len__ : Meth K C_Book "__len__" f_Book_len
  na_Book_places : NoAttr K C_Book "places"
  na_Book_cases : NoAttr K C_Book "cases"
  na_Book_rows : NoAttr K C_Book "rows"
  na_Book_outcomes : NoAttr K C_Book "outcomes"
  is_Book_Book : PySem.W.kitOne K (.ref C_Book) (.ref C_Book) = some true
  eq_Book_Book : HP.EqCls K C_Book C_Book f_Book_eq
  mk_Adder : Mk K C_Adder f_Adder_init
  pc_Adder : HC.PC K C_Paper C_Adder "Adder"
  me_Adder_outcome : Meth K C_Adder "outcome" f_Adder_outcome
  su_Adder_Adder : HS.SupCls K C_Adder C_Adder "__init__" f_Paper_init
  na_Adder_places : NoAttr K C_Adder "places"
  na_Adder_constant : NoAttr K C_Adder "constant"
  is_Adder_Adder : PySem.W.kitOne K (.ref C_Adder) (.ref C_Adder) = some true
  io_Adder_list : PySem.W.kitOne K (.ref C_Adder) (.type "list") = some false
  io_Adder_tuple : PySem.W.kitOne K (.ref C_Adder) (.type "tuple") = some false
  eq_Adder_Adder : HP.EqCls K C_Adder C_Adder f_Paper_eq
  mk_Quarrel : Mk K C_Quarrel f_Quarrel_init
  pc_Quarrel : HC.PC K C_Paper C_Quarrel "Quarrel"
  su_Quarrel_Quarrel : HS.SupCls K C_Quarrel C_Quarrel "__init__" f_Paper_init
  na_Quarrel_numbers : NoAttr K C_Quarrel "numbers"
  is_Quarrel_Quarrel : PySem.W.kitOne K (.ref C_Quarrel) (.ref C_Quarrel) = some true
  mk_Fits : Mk K C_Fits f_Fits_init
  pc_Fits : HC.PC K C_Paper C_Fits "Fits"
  su_Fits_Fits : HS.SupCls K C_Fits C_Fits "__init__" f_Paper_init
  na_Fits_adder : NoAttr K C_Fits "adder"
  mk_Open : Mk K C_Open f_Open_init
  pc_Open : HC.PC K C_Paper C_Open "Open"
  su_Open_Open : HS.SupCls K C_Open C_Open "__init__" f_Paper_init
  na_Open_one : NoAttr K C_Open "one"
  na_Open_other : NoAttr K C_Open "other"
  is_Open_Forced : PySem.W.kitOne K (.ref C_Open) (.ref C_Forced) = some false
  is_Open_Open : PySem.W.kitOne K (.ref C_Open) (.ref C_Open) = some true
  eq_Open_Open : HP.EqCls K C_Open C_Open f_Paper_eq
  mk_Forced : Mk K C_Forced f_Forced_init
  pc_Forced : HC.PC K C_Paper C_Forced "Forced"
  su_Forced_Forced : HS.SupCls K C_Forced C_Forced "__init__" f_Paper_init
  na_Forced_outcome : NoAttr K C_Forced "outcome"
  na_Forced_numbers : NoAttr K C_Forced "numbers"
  is_Forced_Forced : PySem.W.kitOne K (.ref C_Forced) (.ref C_Forced) = some true
  is_Forced_Open : PySem.W.kitOne K (.ref C_Forced) (.ref C_Open) = some false
  kb_Book_with_case_outcome_row : KBinds K fd_Book_with_case ["self", "row", "outcome"] ["outcome", "row"] (HIn.perm1 [1, 0] .none) (HIn.perm1 [1, 0] .non)
  z_abs : mg "abs" = none
  z_all : mg "all" = none
  z_bool : mg "bool" = none
  z_enumerate : mg "enumerate" = none
  z_int : mg "int" = none
  z_isinstance : mg "isinstance" = none
  z_len : mg "len" = none
  z_list : mg "list" = none
  z_min : mg "min" = none
  z_range : mg "range" = none
  z_set : mg "set" = none
  z_sorted : mg "sorted" = none
  z_sum : mg "sum" = none
  z_tuple : mg "tuple" = none
  t_MOST_CASES : Tok
  c_MOST_CASES : mg "MOST_CASES" = some (.int 16 t_MOST_CASES)
  t_MOST_PLACES : Tok
  c_MOST_PLACES : mg "MOST_PLACES" = some (.int 6 t_MOST_PLACES)
namespace Tx
variable {P : Program} {K : PySem.W.Frag} {mg : Str → Option Value}
theorem r_MOST_CASES (T : Tx P K mg) : RelV (.int 16) (.int 16 T.t_MOST_CASES) := ⟨_, rfl⟩
theorem r_MOST_PLACES (T : Tx P K mg) : RelV (.int 6) (.int 6 T.t_MOST_PLACES) := ⟨_, rfl⟩
end Tx
end D60
namespace D60
open PySem PySem.Spec PyProof.Rows L2 HX
section
variable {P : Program} {w : World} {K : PySem.W.Frag} {mg : Str → Option Value} {base : Heap}
local macro_rules | `(tactic| fail "fcl") => `(tactic| with_reducible first | exact (show Tx _ _ _ by assumption).pc_Adder.cl | exact (show Tx _ _ _ by assumption).pc_Quarrel.cl | exact (show Tx _ _ _ by assumption).pc_Fits.cl | exact (show Tx _ _ _ by assumption).pc_Open.cl | exact (show Tx _ _ _ by assumption).pc_Forced.cl | exact (show Tx _ _ _ by assumption).pb_Book.cl)
local macro_rules | `(tactic| fail "fpc") => `(tactic| with_reducible first | exact (show Tx _ _ _ by assumption).pc_Adder | exact (show Tx _ _ _ by assumption).pc_Quarrel | exact (show Tx _ _ _ by assumption).pc_Fits | exact (show Tx _ _ _ by assumption).pc_Open | exact (show Tx _ _ _ by assumption).pc_Forced)
local macro_rules | `(tactic| fail "fpb") => `(tactic| with_reducible first | exact (show Tx _ _ _ by assumption).pb_Book)
local macro_rules | `(tactic| fail "fhc") => `(tactic| with_reducible first | exact (show Tx _ _ _ by assumption).pc_Adder.hc | exact (show Tx _ _ _ by assumption).pc_Quarrel.hc | exact (show Tx _ _ _ by assumption).pc_Fits.hc | exact (show Tx _ _ _ by assumption).pc_Open.hc | exact (show Tx _ _ _ by assumption).pc_Forced.hc | exact (show Tx _ _ _ by assumption).pb_Book.hc)
local macro_rules | `(tactic| fail "fna") => `(tactic| with_reducible first | exact (show Tx _ _ _ by assumption).na_Book_places | exact (show Tx _ _ _ by assumption).na_Book_cases | exact (show Tx _ _ _ by assumption).na_Book_rows | exact (show Tx _ _ _ by assumption).na_Book_outcomes | exact (show Tx _ _ _ by assumption).pc_Adder.word | exact (show Tx _ _ _ by assumption).pc_Adder.parts | exact (show Tx _ _ _ by assumption).na_Adder_places | exact (show Tx _ _ _ by assumption).na_Adder_constant | exact (show Tx _ _ _ by assumption).pc_Quarrel.word | exact (show Tx _ _ _ by assumption).pc_Quarrel.parts | exact (show Tx _ _ _ by assumption).na_Quarrel_numbers | exact (show Tx _ _ _ by assumption).pc_Fits.word | exact (show Tx _ _ _ by assumption).pc_Fits.parts | exact (show Tx _ _ _ by assumption).na_Fits_adder | exact (show Tx _ _ _ by assumption).pc_Open.word | exact (show Tx _ _ _ by assumption).pc_Open.parts | exact (show Tx _ _ _ by assumption).na_Open_one | exact (show Tx _ _ _ by assumption).na_Open_other | exact (show Tx _ _ _ by assumption).pc_Forced.word | exact (show Tx _ _ _ by assumption).pc_Forced.parts | exact (show Tx _ _ _ by assumption).na_Forced_outcome | exact (show Tx _ _ _ by assumption).na_Forced_numbers)
local macro_rules | `(tactic| fail "fki") => `(tactic| with_reducible first | exact (show Tx _ _ _ by assumption).is_Book_Book | exact (show Tx _ _ _ by assumption).is_Adder_Adder | exact (show Tx _ _ _ by assumption).is_Quarrel_Quarrel | exact (show Tx _ _ _ by assumption).is_Open_Forced | exact (show Tx _ _ _ by assumption).is_Open_Open | exact (show Tx _ _ _ by assumption).is_Forced_Forced | exact (show Tx _ _ _ by assumption).is_Forced_Open | exact (show Tx _ _ _ by assumption).io_Adder_list | exact (show Tx _ _ _ by assumption).io_Adder_tuple)
theorem fixed_step (T : Tx P K mg) (m : Nat) (ih : FnOk P w K mg base CX0 m T.f_fixed T.fd_fixed ["value"] (HD.lift K (HY.spd_fixedKB K m))) : FnOk P w K mg base CX0 (m + 1) T.f_fixed T.fd_fixed ["value"] (HD.lift K (HY.spd_fixedK K m)) := by
  refine T.F_fixed.ok sc_fixed (fun vs H Q E h => ?_) (fun cdv A outer s H vs Q E hr h => ?_)
  · obtain ⟨cx, nn, args, Qd, Ed, hc, d, rfl, _⟩ := h; exact hc.ra.len
  obtain ⟨cx, nn, args, Qd, Ed, hc, d, rfl, ok, q⟩ := h
  refine ⟨_, (pss_cons (ps_if (pt_not (pt_val (pe_callB (HD.call_isiTU (K := K)) (by rfl) T.z_isinstance (by decide +kernel) (pa_cons (pv 0) (pa_cons (pe_tup (pa_cons (pe_bltn (v := .ty "list") (by rfl) T.z_list (by decide +kernel) rfl) (pa_cons (pe_bltn (v := .ty "tuple") (by rfl) T.z_tuple (by decide +kernel) rfl) pa_nil))) pa_nil))))) (pss_one (ps_ret (pv 0))) pss_nil)
      (pss_one (ps_ret (pe_callTy (call_tupleK (K := K)) (by rfl) T.z_tuple (by decide +kernel) (pa_cons (pe_lc (own := [("part", 1)]) (g := gName 1) (tt := tYes) (by rfl) sc_fixed.nd (HC.pi_seqK (K := K) (pv 0)) (blkOk_by (own := [("part", 1)]) (N := n_fixed) (sc := defScope s_fixed) (by decide +kernel)) (fun _ _ _ _ _ => (pg_name (i := 1) sc_fixed.nd rfl (by first | exact .inl rfl | exact .inr rfl))) (fun _ _ _ _ _ => pts_nil) (fun _ _ _ _ _ => (pe_call ih hr (by rfl) T.g_fixed T.F_fixed.kp T.b_fixed .nil pass0 (pa_cons (pv 1) pa_nil)))) pa_nil))))), HD.enter (ρ := [HD.S.v d, HD.S.un]) hc rfl ?_⟩
  clear hc
  fail "dr"
  cases d with
  | lst xs =>
    cases m with
    | zero => exact ok.elim
    | succ m =>
    have hl := ok.1
    refine HD.isiTB_ (t := "list") (it := .v (.lst xs)) rfl rfl (HD.sq_kit (d := (.lst xs)) rfl) ?_
    fail "dr"
    refine HD.iseqL_ ?_
    fail "dr"
    refine HD.CpD.mapD HD.D.fix hl (fun x hx ys => ?_) ?_
    · fail "dr"
      exact ⟨x, rfl, ok.2 x hx, rfl, rfl, rfl⟩
    · fail "dr"
      rw [HD.D.fix, HD.D.fixs_map] at q
      exact q
  | tup xs =>
    cases m with
    | zero => exact ok.elim
    | succ m =>
    have hl := ok.1
    refine HD.isiTB_ (t := "tuple") (it := .v (.tup xs)) rfl rfl (HD.sq_kit (d := (.tup xs)) rfl) ?_
    fail "dr"
    refine HD.iseqT_ ?_
    fail "dr"
    refine HD.CpD.mapD HD.D.fix hl (fun x hx ys => ?_) ?_
    · fail "dr"
      exact ⟨x, rfl, ok.2 x hx, rfl, rfl, rfl⟩
    · fail "dr"
      rw [HD.D.fix, HD.D.fixs_map] at q
      exact q
  | ins C fs =>
    have ns : HY.NoSq K C := by cases m <;> exact ok
    refine HY.isiTN_ (it := .v (.ins C fs)) rfl ns ?_
    fail "dr"
    exact q
  | non =>
    refine HD.isiTB_ (t := "NoneType") (it := .v .non) rfl rfl (HD.sq_kit (d := .non) rfl) ?_
    fail "dr"
    exact q
  | bl b =>
    refine HD.isiTB_ (t := "bool") (it := .v (.bl b)) rfl rfl (HD.sq_kit (d := (.bl b)) rfl) ?_
    fail "dr"
    exact q
  | int i =>
    refine HD.isiTB_ (t := "int") (it := .v (.int i)) rfl rfl (HD.sq_kit (d := (.int i)) rfl) ?_
    fail "dr"
    exact q
  | str x =>
    refine HD.isiTB_ (t := "str") (it := .v (.str x)) rfl rfl (HD.sq_kit (d := (.str x)) rfl) ?_
    fail "dr"
    exact q
  | ty x => cases m <;> exact absurd (show (HD.D.tn (.ty x)).isSome = true from ok) (by simp [HD.D.tn])
  | glo x => cases m <;> exact absurd (show (HD.D.tn (.glo x)).isSome = true from ok) (by simp [HD.D.tn])
  | hat => cases m <;> exact absurd (show (HD.D.tn .hat).isSome = true from ok) (by simp [HD.D.tn])
theorem ok_fixedN (T : Tx P K mg) : ∀ m, FnOk P w K mg base CX0 (m + 1) T.f_fixed T.fd_fixed ["value"] (HD.lift K (HY.spd_fixedK K m))
  | 0 => fixed_step T 0 (by rw [HY.liftK_false]; exact HC.FnOk.nil)
  | m + 1 => fixed_step T (m + 1) (ok_fixedN T m)
theorem ok_fixed (T : Tx P K mg) : FnOk P w K mg base CX0 3 T.f_fixed T.fd_fixed ["value"] (HD.lift K (HY.spd_fixedK K 2)) := ok_fixedN T 2
theorem okB_Paper_init (T : Tx P K mg) {C : Addr} (hC : Cls K C) (nw : NoAttr K C "word") (np : NoAttr K C "parts") : FnR P w K mg base CX0 4 T.f_Paper_init (HC.starS ["self", "word"] (HD.liftI K C (HY.spi_PaperKB K 2))) := by
  refine HC.star_ok T.SF_Paper_init sc_Paper_init (fun cdv A outer s H vs Q E hr h => ?_)
  obtain ⟨cx, nn, x, dx, ws, args, Qd, Ed, rfl, hc, w', xs, rfl, ok, q⟩ := h
  have hwl : ws.length = 2 := hc.ra.len
  match ws, hwl with
  | [w1, w2], _ =>
  refine ⟨_, (pss_cons (HC.ps_fldK (K := K) (pv 0) (pv 1))
      (pss_one (HC.ps_fldK (K := K) (pv 0) (pe_call (ok_fixed T) (hr.mono (by decide)) (by rfl) T.g_fixed T.F_fixed.kp T.b_fixed .nil pass0 (pa_cons (pv 2) pa_nil))))), ?_⟩
  refine HX.start_ (σ := [some (V.ref x), some w1, some w2]) rfl ?_
  refine HD.enterI hc (m := 0) (es := [.str w', .tup xs]) rfl (fun L s => ?_)
  refine (?_ : HD.GS cx _ nn [] _ ⟨fun ρ m => ∃ fs, ρ[0]? = some (.me x (.ins C fs)) ∧ Qd fs m, fun _ _ => False, fun _ _ => False, fun _ _ => False⟩) _ _ _ _ ⟨_, _, s⟩ ⟨fun ρ n σ H ⟨fs, h0, q⟩ s => HD.leaveI hc s h0 q, fun _ _ _ _ q => q.elim, fun _ _ _ _ q => q.elim, fun _ _ _ _ q => q.elim⟩
  clear s hc
  dsimp only [List.map, List.replicate, List.cons_append, List.nil_append]
  fail "dr"
  refine ⟨_, _, _, _, _, rfl, rfl, rfl, hC, nw, rfl, ?_⟩
  fail "dr"
  refine ⟨.tup xs, rfl, ok, ?_⟩
  fail "dr"
  refine ⟨_, _, _, _, _, rfl, rfl, rfl, hC, np, rfl, ?_⟩
  refine ⟨_, rfl, ?_⟩
  exact q
theorem okC_Paper_init (T : Tx P K mg) {C CP : Addr} {nm : Str} (pc : HC.PC K CP C nm) : FnR P w K mg base CX0 4 T.f_Paper_init (HD.liftI K C (HY.spi_PaperK K 2)) := HD.fnr_imp (okB_Paper_init T pc.cl pc.word pc.parts) HY.starIK
theorem noSq_Adder (T : Tx P K mg) : HY.NoSq K T.C_Adder := ⟨⟨_, ⟨T.pc_Adder.cl, T.pc_Adder.hc, T.pc_Adder.nm⟩⟩, T.io_Adder_list, T.io_Adder_tuple⟩
def spi_Adder_init (K : PySem.W.Frag) (ds : List HD.D) (n : Nat) (Q : List (Str × HD.D) → Nat → Prop) (_ : HD.XD) : Prop := ∃ d0 d1, ds = [d0, d1] ∧ HY.okK K 1 d0 ∧ HY.okK K 1 d1 ∧ Q [("word", .str "adder"), ("parts", .tup [d0.fix, d1.fix]), ("places", d0.fix), ("constant", d1.fix)] n
theorem okK_Adder_init (T : Tx P K mg) (kw : Bool) : HS.FnB P w K mg base CX0 5 T.f_Adder_init ["self", "places", "constant"] kw (HD.liftI K T.C_Adder (spi_Adder_init K)) := by
  refine HS.fn_superB kw T.SD_Adder_init rfl sc_Adder_init rfl rfl rfl rfl rfl (fun _ => rfl) (fun _ => rfl) (fun _ => rfl) (fun _ => rfl) (fun _ => rfl) (fun vs H Q E h => ?_) (fun A outer s H vs Q E hr h => ?_)
  · obtain ⟨cx, nn, x, dx, ws, args, Qd, Ed, rfl, hc, hsp⟩ := h
    obtain ⟨d0, d1, rfl, ok0, ok1, q⟩ := hsp
    exact congrArg (· + 1) hc.ra.len
  obtain ⟨cx, nn, x, dx, ws, args, Qd, Ed, rfl, hc, hsp⟩ := h
  obtain ⟨d0, d1, rfl, ok0, ok1, q⟩ := hsp
  have hwl : ws.length = 2 := hc.ra.len
  match ws, hwl with
  | [w0, w1], _ =>
  refine ⟨x, T.C_Adder, dx, T.f_Paper_init, [], _, _, _, HD.liftI K T.C_Adder (HY.spi_PaperK K 2), rfl, hc.hx, T.su_Adder_Adder, (okC_Paper_init T T.pc_Adder).mono (by decide), (pa_cons pe_str (pa_cons (pv 1) (pa_cons (pv 2) pa_nil))), (pss_one (ps_asg (HC.pe_fldK (K := K) (pv 0)) (pg_tupK (K := K) 2 (by rfl) (pgs_cons (HY.pg_fldK (K := K) (pv 0)) (pgs_cons (HY.pg_fldK (K := K) (pv 0)) pgs_nil))))), ?_⟩
  generalize hσ : NdefX.startF n_Adder_init [V.ref x, w0, w1] [none] = σ0
  obtain ⟨L, s⟩ := HD.enterJ (σ := σ0) hc (m := 1) (es := [d0, d1]) (by rw [← hσ]; rfl)
  refine HD.super_ (ds := []) rfl (D := ⟨fun ρ m => ∃ fs, ρ[0]? = some (.me x (.ins T.C_Adder fs)) ∧ Qd fs m, fun _ _ => False, fun _ _ => False, fun _ _ => False⟩) ?_ ⟨_, _, s⟩ ⟨fun ρ n σ H ⟨fs, h0, q⟩ s => HD.leaveI hc s h0 q, fun _ _ _ _ q => q.elim, fun _ _ _ _ q => q.elim, fun _ _ _ _ q => q.elim⟩
  clear s hc
  dsimp only [List.map, List.replicate, List.cons_append, List.nil_append]
  fail "dr"
  refine ⟨rfl, "adder", [d0, d1], rfl, ⟨Nat.le_of_ble_eq_true rfl, ?_⟩, ?_⟩
  · intro x hx; simp only [List.mem_cons, List.not_mem_nil, or_false] at hx; rcases hx with rfl | rfl <;> assumption
  dsimp only [List.set_cons_zero]
  fail "dr"
  dsimp only [HD.D.fixs, List.map]
  fail "dr"
  refine ⟨_, rfl, ?_⟩
  exact q
theorem ok_Adder_init (T : Tx P K mg) : FnR P w K mg base CX0 5 T.f_Adder_init (HD.liftI K T.C_Adder (spi_Adder_init K)) := fun A outer s H us vs Q E => okK_Adder_init T false A outer s H us vs Q E
theorem use_Adder_init {d0 d1 : HD.D} {n : Nat} {Q : List (Str × HD.D) → Nat → Prop} {E : HD.XD} (h0 : HY.okK K 1 d0) (h1 : HY.okK K 1 d1) (q : Q [("word", .str "adder"), ("parts", .tup [d0.fix, d1.fix]), ("places", d0.fix), ("constant", d1.fix)] n) : spi_Adder_init K [d0, d1] n Q E := ⟨d0, d1, rfl, h0, h1, q⟩

def spi_Fits_init (K : PySem.W.Frag) (ds : List HD.D) (n : Nat) (Q : List (Str × HD.D) → Nat → Prop) (_ : HD.XD) : Prop := ∃ d0, ds = [d0] ∧ HY.okK K 1 d0 ∧ Q [("word", .str "fits"), ("parts", .tup [d0.fix]), ("adder", d0.fix)] n
theorem okK_Fits_init (T : Tx P K mg) (kw : Bool) : HS.FnB P w K mg base CX0 5 T.f_Fits_init ["self", "adder"] kw (HD.liftI K T.C_Fits (spi_Fits_init K)) := by
  refine HS.fn_superB kw T.SD_Fits_init rfl sc_Fits_init rfl rfl rfl rfl rfl (fun _ => rfl) (fun _ => rfl) (fun _ => rfl) (fun _ => rfl) (fun _ => rfl) (fun vs H Q E h => ?_) (fun A outer s H vs Q E hr h => ?_)
  · obtain ⟨cx, nn, x, dx, ws, args, Qd, Ed, rfl, hc, hsp⟩ := h
    obtain ⟨d0, rfl, ok0, q⟩ := hsp
    exact congrArg (· + 1) hc.ra.len
  obtain ⟨cx, nn, x, dx, ws, args, Qd, Ed, rfl, hc, hsp⟩ := h
  obtain ⟨d0, rfl, ok0, q⟩ := hsp
  have hwl : ws.length = 1 := hc.ra.len
  match ws, hwl with
  | [w0], _ =>
  refine ⟨x, T.C_Fits, dx, T.f_Paper_init, [], _, _, _, HD.liftI K T.C_Fits (HY.spi_PaperK K 2), rfl, hc.hx, T.su_Fits_Fits, (okC_Paper_init T T.pc_Fits).mono (by decide), (pa_cons pe_str (pa_cons (pv 1) pa_nil)), (pss_one (HC.ps_fldK (K := K) (pv 0) (pe_ix (ix_K (K := K)) (HC.pe_fldK (K := K) (pv 0)) pe_int (fun _ _ => rfl)))), ?_⟩
  generalize hσ : NdefX.startF n_Fits_init [V.ref x, w0] [none] = σ0
  obtain ⟨L, s⟩ := HD.enterJ (σ := σ0) hc (m := 1) (es := [d0]) (by rw [← hσ]; rfl)
  refine HD.super_ (ds := []) rfl (D := ⟨fun ρ m => ∃ fs, ρ[0]? = some (.me x (.ins T.C_Fits fs)) ∧ Qd fs m, fun _ _ => False, fun _ _ => False, fun _ _ => False⟩) ?_ ⟨_, _, s⟩ ⟨fun ρ n σ H ⟨fs, h0, q⟩ s => HD.leaveI hc s h0 q, fun _ _ _ _ q => q.elim, fun _ _ _ _ q => q.elim, fun _ _ _ _ q => q.elim⟩
  clear s hc
  dsimp only [List.map, List.replicate, List.cons_append, List.nil_append]
  fail "dr"
  refine ⟨rfl, "fits", [d0], rfl, ⟨Nat.le_of_ble_eq_true rfl, ?_⟩, ?_⟩
  · intro x hx; simp only [List.mem_cons, List.not_mem_nil, or_false] at hx; rcases hx with rfl <;> assumption
  dsimp only [List.set_cons_zero]
  fail "dr"
  refine ⟨_, rfl, ?_⟩
  exact q
theorem ok_Fits_init (T : Tx P K mg) : FnR P w K mg base CX0 5 T.f_Fits_init (HD.liftI K T.C_Fits (spi_Fits_init K)) := fun A outer s H us vs Q E => okK_Fits_init T false A outer s H us vs Q E
theorem use_Fits_init {d0 : HD.D} {n : Nat} {Q : List (Str × HD.D) → Nat → Prop} {E : HD.XD} (h0 : HY.okK K 1 d0) (q : Q [("word", .str "fits"), ("parts", .tup [d0.fix]), ("adder", d0.fix)] n) : spi_Fits_init K [d0] n Q E := ⟨d0, rfl, h0, q⟩

def spi_Quarrel_init (K : PySem.W.Frag) (ds : List HD.D) (n : Nat) (Q : List (Str × HD.D) → Nat → Prop) (_ : HD.XD) : Prop := ∃ d0, ds = [d0] ∧ HY.okK K 1 d0 ∧ Q [("word", .str "quarrel"), ("parts", .tup [d0.fix]), ("numbers", d0.fix)] n
theorem okK_Quarrel_init (T : Tx P K mg) (kw : Bool) : HS.FnB P w K mg base CX0 5 T.f_Quarrel_init ["self", "numbers"] kw (HD.liftI K T.C_Quarrel (spi_Quarrel_init K)) := by
  refine HS.fn_superB kw T.SD_Quarrel_init rfl sc_Quarrel_init rfl rfl rfl rfl rfl (fun _ => rfl) (fun _ => rfl) (fun _ => rfl) (fun _ => rfl) (fun _ => rfl) (fun vs H Q E h => ?_) (fun A outer s H vs Q E hr h => ?_)
  · obtain ⟨cx, nn, x, dx, ws, args, Qd, Ed, rfl, hc, hsp⟩ := h
    obtain ⟨d0, rfl, ok0, q⟩ := hsp
    exact congrArg (· + 1) hc.ra.len
  obtain ⟨cx, nn, x, dx, ws, args, Qd, Ed, rfl, hc, hsp⟩ := h
  obtain ⟨d0, rfl, ok0, q⟩ := hsp
  have hwl : ws.length = 1 := hc.ra.len
  match ws, hwl with
  | [w0], _ =>
  refine ⟨x, T.C_Quarrel, dx, T.f_Paper_init, [], _, _, _, HD.liftI K T.C_Quarrel (HY.spi_PaperK K 2), rfl, hc.hx, T.su_Quarrel_Quarrel, (okC_Paper_init T T.pc_Quarrel).mono (by decide), (pa_cons pe_str (pa_cons (pv 1) pa_nil)), (pss_one (HC.ps_fldK (K := K) (pv 0) (pe_ix (ix_K (K := K)) (HC.pe_fldK (K := K) (pv 0)) pe_int (fun _ _ => rfl)))), ?_⟩
  generalize hσ : NdefX.startF n_Quarrel_init [V.ref x, w0] [none] = σ0
  obtain ⟨L, s⟩ := HD.enterJ (σ := σ0) hc (m := 1) (es := [d0]) (by rw [← hσ]; rfl)
  refine HD.super_ (ds := []) rfl (D := ⟨fun ρ m => ∃ fs, ρ[0]? = some (.me x (.ins T.C_Quarrel fs)) ∧ Qd fs m, fun _ _ => False, fun _ _ => False, fun _ _ => False⟩) ?_ ⟨_, _, s⟩ ⟨fun ρ n σ H ⟨fs, h0, q⟩ s => HD.leaveI hc s h0 q, fun _ _ _ _ q => q.elim, fun _ _ _ _ q => q.elim, fun _ _ _ _ q => q.elim⟩
  clear s hc
  dsimp only [List.map, List.replicate, List.cons_append, List.nil_append]
  fail "dr"
  refine ⟨rfl, "quarrel", [d0], rfl, ⟨Nat.le_of_ble_eq_true rfl, ?_⟩, ?_⟩
  · intro x hx; simp only [List.mem_cons, List.not_mem_nil, or_false] at hx; rcases hx with rfl <;> assumption
  dsimp only [List.set_cons_zero]
  fail "dr"
  refine ⟨_, rfl, ?_⟩
  exact q
theorem ok_Quarrel_init (T : Tx P K mg) : FnR P w K mg base CX0 5 T.f_Quarrel_init (HD.liftI K T.C_Quarrel (spi_Quarrel_init K)) := fun A outer s H us vs Q E => okK_Quarrel_init T false A outer s H us vs Q E
theorem use_Quarrel_init {d0 : HD.D} {n : Nat} {Q : List (Str × HD.D) → Nat → Prop} {E : HD.XD} (h0 : HY.okK K 1 d0) (q : Q [("word", .str "quarrel"), ("parts", .tup [d0.fix]), ("numbers", d0.fix)] n) : spi_Quarrel_init K [d0] n Q E := ⟨d0, rfl, h0, q⟩

def spi_Forced_init (K : PySem.W.Frag) (ds : List HD.D) (n : Nat) (Q : List (Str × HD.D) → Nat → Prop) (_ : HD.XD) : Prop := ∃ d0 d1, ds = [d0, d1] ∧ HY.okK K 1 d0 ∧ HY.okK K 1 d1 ∧ Q [("word", .str "forced"), ("parts", .tup [d0.fix, d1.fix]), ("outcome", d0.fix), ("numbers", d1.fix)] n
theorem okK_Forced_init (T : Tx P K mg) (kw : Bool) : HS.FnB P w K mg base CX0 6 T.f_Forced_init ["self", "outcome", "numbers"] kw (HD.liftI K T.C_Forced (spi_Forced_init K)) := by
  refine HS.fn_superB kw T.SD_Forced_init rfl sc_Forced_init rfl rfl rfl rfl rfl (fun _ => rfl) (fun _ => rfl) (fun _ => rfl) (fun _ => rfl) (fun _ => rfl) (fun vs H Q E h => ?_) (fun A outer s H vs Q E hr h => ?_)
  · obtain ⟨cx, nn, x, dx, ws, args, Qd, Ed, rfl, hc, hsp⟩ := h
    obtain ⟨d0, d1, rfl, ok0, ok1, q⟩ := hsp
    exact congrArg (· + 1) hc.ra.len
  obtain ⟨cx, nn, x, dx, ws, args, Qd, Ed, rfl, hc, hsp⟩ := h
  obtain ⟨d0, d1, rfl, ok0, ok1, q⟩ := hsp
  have hwl : ws.length = 2 := hc.ra.len
  match ws, hwl with
  | [w0, w1], _ =>
  refine ⟨x, T.C_Forced, dx, T.f_Paper_init, [], _, _, _, HD.liftI K T.C_Forced (HY.spi_PaperK K 2), rfl, hc.hx, T.su_Forced_Forced, (okC_Paper_init T T.pc_Forced).mono (by decide), (pa_cons pe_str (pa_cons (pv 1) (pa_cons (pv 2) pa_nil))), (pss_one (ps_asg (HC.pe_fldK (K := K) (pv 0)) (pg_tupK (K := K) 2 (by rfl) (pgs_cons (HY.pg_fldK (K := K) (pv 0)) (pgs_cons (HY.pg_fldK (K := K) (pv 0)) pgs_nil))))), ?_⟩
  generalize hσ : NdefX.startF n_Forced_init [V.ref x, w0, w1] [none] = σ0
  obtain ⟨L, s⟩ := HD.enterJ (σ := σ0) hc (m := 1) (es := [d0, d1]) (by rw [← hσ]; rfl)
  refine HD.super_ (ds := []) rfl (D := ⟨fun ρ m => ∃ fs, ρ[0]? = some (.me x (.ins T.C_Forced fs)) ∧ Qd fs m, fun _ _ => False, fun _ _ => False, fun _ _ => False⟩) ?_ ⟨_, _, s⟩ ⟨fun ρ n σ H ⟨fs, h0, q⟩ s => HD.leaveI hc s h0 q, fun _ _ _ _ q => q.elim, fun _ _ _ _ q => q.elim, fun _ _ _ _ q => q.elim⟩
  clear s hc
  dsimp only [List.map, List.replicate, List.cons_append, List.nil_append]
  fail "dr"
  refine ⟨rfl, "forced", [d0, d1], rfl, ⟨Nat.le_of_ble_eq_true rfl, ?_⟩, ?_⟩
  · intro x hx; simp only [List.mem_cons, List.not_mem_nil, or_false] at hx; rcases hx with rfl | rfl <;> assumption
  dsimp only [List.set_cons_zero]
  fail "dr"
  dsimp only [HD.D.fixs, List.map]
  fail "dr"
  refine ⟨_, rfl, ?_⟩
  exact q
theorem ok_Forced_init (T : Tx P K mg) : FnR P w K mg base CX0 6 T.f_Forced_init (HD.liftI K T.C_Forced (spi_Forced_init K)) := fun A outer s H us vs Q E => okK_Forced_init T false A outer s H us vs Q E
theorem use_Forced_init {d0 d1 : HD.D} {n : Nat} {Q : List (Str × HD.D) → Nat → Prop} {E : HD.XD} (h0 : HY.okK K 1 d0) (h1 : HY.okK K 1 d1) (q : Q [("word", .str "forced"), ("parts", .tup [d0.fix, d1.fix]), ("outcome", d0.fix), ("numbers", d1.fix)] n) : spi_Forced_init K [d0, d1] n Q E := ⟨d0, d1, rfl, h0, h1, q⟩

def spi_Open_init (K : PySem.W.Frag) (ds : List HD.D) (n : Nat) (Q : List (Str × HD.D) → Nat → Prop) (_ : HD.XD) : Prop := ∃ d0 d1, ds = [d0, d1] ∧ HY.okK K 1 d0 ∧ HY.okK K 1 d1 ∧ Q [("word", .str "open"), ("parts", .tup [d0.fix, d1.fix]), ("one", d0.fix), ("other", d1.fix)] n
theorem okK_Open_init (T : Tx P K mg) (kw : Bool) : HS.FnB P w K mg base CX0 5 T.f_Open_init ["self", "one", "other"] kw (HD.liftI K T.C_Open (spi_Open_init K)) := by
  refine HS.fn_superB kw T.SD_Open_init rfl sc_Open_init rfl rfl rfl rfl rfl (fun _ => rfl) (fun _ => rfl) (fun _ => rfl) (fun _ => rfl) (fun _ => rfl) (fun vs H Q E h => ?_) (fun A outer s H vs Q E hr h => ?_)
  · obtain ⟨cx, nn, x, dx, ws, args, Qd, Ed, rfl, hc, hsp⟩ := h
    obtain ⟨d0, d1, rfl, ok0, ok1, q⟩ := hsp
    exact congrArg (· + 1) hc.ra.len
  obtain ⟨cx, nn, x, dx, ws, args, Qd, Ed, rfl, hc, hsp⟩ := h
  obtain ⟨d0, d1, rfl, ok0, ok1, q⟩ := hsp
  have hwl : ws.length = 2 := hc.ra.len
  match ws, hwl with
  | [w0, w1], _ =>
  refine ⟨x, T.C_Open, dx, T.f_Paper_init, [], _, _, _, HD.liftI K T.C_Open (HY.spi_PaperK K 2), rfl, hc.hx, T.su_Open_Open, (okC_Paper_init T T.pc_Open).mono (by decide), (pa_cons pe_str (pa_cons (pv 1) (pa_cons (pv 2) pa_nil))), (pss_one (ps_asg (HC.pe_fldK (K := K) (pv 0)) (pg_tupK (K := K) 2 (by rfl) (pgs_cons (HY.pg_fldK (K := K) (pv 0)) (pgs_cons (HY.pg_fldK (K := K) (pv 0)) pgs_nil))))), ?_⟩
  generalize hσ : NdefX.startF n_Open_init [V.ref x, w0, w1] [none] = σ0
  obtain ⟨L, s⟩ := HD.enterJ (σ := σ0) hc (m := 1) (es := [d0, d1]) (by rw [← hσ]; rfl)
  refine HD.super_ (ds := []) rfl (D := ⟨fun ρ m => ∃ fs, ρ[0]? = some (.me x (.ins T.C_Open fs)) ∧ Qd fs m, fun _ _ => False, fun _ _ => False, fun _ _ => False⟩) ?_ ⟨_, _, s⟩ ⟨fun ρ n σ H ⟨fs, h0, q⟩ s => HD.leaveI hc s h0 q, fun _ _ _ _ q => q.elim, fun _ _ _ _ q => q.elim, fun _ _ _ _ q => q.elim⟩
  clear s hc
  dsimp only [List.map, List.replicate, List.cons_append, List.nil_append]
  fail "dr"
  refine ⟨rfl, "open", [d0, d1], rfl, ⟨Nat.le_of_ble_eq_true rfl, ?_⟩, ?_⟩
  · intro x hx; simp only [List.mem_cons, List.not_mem_nil, or_false] at hx; rcases hx with rfl | rfl <;> assumption
  dsimp only [List.set_cons_zero]
  fail "dr"
  dsimp only [HD.D.fixs, List.map]
  fail "dr"
  refine ⟨_, rfl, ?_⟩
  exact q
theorem ok_Open_init (T : Tx P K mg) : FnR P w K mg base CX0 5 T.f_Open_init (HD.liftI K T.C_Open (spi_Open_init K)) := fun A outer s H us vs Q E => okK_Open_init T false A outer s H us vs Q E
theorem use_Open_init {d0 d1 : HD.D} {n : Nat} {Q : List (Str × HD.D) → Nat → Prop} {E : HD.XD} (h0 : HY.okK K 1 d0) (h1 : HY.okK K 1 d1) (q : Q [("word", .str "open"), ("parts", .tup [d0.fix, d1.fix]), ("one", d0.fix), ("other", d1.fix)] n) : spi_Open_init K [d0, d1] n Q E := ⟨d0, d1, rfl, h0, h1, q⟩

def spd_Paper_eq (T : Tx P K mg) (ds : List HD.D) (n : Nat) (Q : HD.I → Nat → Prop) (_ : HD.XD) : Prop := ∃ C E nm nm' fs gs u v d e, ds = [.ins C fs, .ins E gs] ∧ HD.Pp K T.C_Paper C nm fs u d ∧ HD.Pp K T.C_Paper E nm' gs v e ∧ HD.D.cmp d e ∧ Q (.v (.bl (decide (nm = nm') && (decide (u = v) && HD.D.eqv d e)))) n
theorem ok_Paper_eq (T : Tx P K mg) : FnOk P w K mg base CX0 1 T.f_Paper_eq T.fd_Paper_eq ["self", "other"] (HD.lift K (spd_Paper_eq T)) := by
  refine T.F_Paper_eq.ok sc_Paper_eq (fun vs H Q E h => ?_) (fun cdv A outer s H vs Q E hr h => ?_)
  · obtain ⟨cx, nn, args, Qd, Ed, hc, hsp⟩ := h
    obtain ⟨C, E, nm, nm', fs, gs, u, v, d, e, rfl, p1, p2, hd, q⟩ := hsp
    exact hc.ra.len
  obtain ⟨cx, nn, args, Qd, Ed, hc, hsp⟩ := h
  obtain ⟨C, E, nm, nm', fs, gs, u, v, d, e, rfl, p1, p2, hd, q⟩ := hsp
  refine ⟨_, (pss_cons (ps_if (PW.pt (pw_or (pt_not (pt_val (pe_callB (call_isiK' (K := K)) (by rfl) T.z_isinstance (by decide +kernel) (pa_cons (pv 1) (pa_cons (pe_glob (v := .ref T.C_Paper) (by rfl) T.g_Paper rfl) pa_nil))))) (pw_or1 (pt_cmpR (op_neK (K := K) hr.units) (HP.pe_name (K := K) (HP.pe_class (K := K) (pv 0))) (HP.pe_name (K := K) (HP.pe_class (K := K) (pv 1))) (nomark _))))) (pss_one (ps_ret pe_bl)) pss_nil)
      (pss_one (ps_ret (pe_callTy HC.call_boolU (by rfl) T.z_bool (by decide +kernel) (pa_cons (pe_and (pe_cmpR (op_eqK (K := K) hr.units) (HC.pe_fldK (K := K) (pv 0)) (HC.pe_fldK (K := K) (pv 1)) (nomark _)) (pe_one (pe_cmpR (op_eqK (K := K) hr.units) (HC.pe_fldK (K := K) (pv 0)) (HC.pe_fldK (K := K) (pv 1)) (nomark _)))) pa_nil))))), HD.enter (ρ := [HD.S.v (.ins C fs : HD.D), HD.S.v (.ins E gs : HD.D)]) hc rfl ?_⟩
  clear hc

  fail "dr"
  refine HD.isiO_ rfl p2.pc p2.pc.isP ?_
  fail "dr"
  refine ⟨_, _, rfl, p1.pc.hc, _, _, rfl, p1.pc.nm, ?_⟩
  fail "dr"
  refine ⟨_, _, rfl, p2.pc.hc, _, _, rfl, p2.pc.nm, ?_⟩
  fail "dr"
  refine HX.itend_ (fun h => ?_) (fun h => ?_)
  · rw [decide_eq_false h] at q
    fail "dr"
    exact q
  rw [decide_eq_true h] at q
  fail "dr"
  refine ⟨_, _, _, rfl, p1.pc.cl, p1.pc.word, p1.wd, ?_⟩
  fail "dr"
  refine ⟨_, _, _, rfl, p2.pc.cl, p2.pc.word, p2.wd, ?_⟩
  fail "dr"
  refine HX.ited_ (fun h2 => ?_) (fun h2 => ?_)
  · rw [decide_eq_true h2] at q
    fail "dr"
    refine ⟨_, _, _, rfl, p1.pc.cl, p1.pc.parts, p1.pt, ?_⟩
    fail "dr"
    refine ⟨_, _, _, rfl, p2.pc.cl, p2.pc.parts, p2.pt, ?_⟩
    refine HD.eqD_ hd ?_
    fail "dr"
    exact q
  · rw [decide_eq_false h2] at q
    fail "dr"
    exact q
/-- papers whose parts are papers without papers -/
def spd_Paper_eq1 (T : Tx P K mg) (ds : List HD.D) (n : Nat) (Q : HD.I → Nat → Prop) (_ : HD.XD) : Prop := ∃ C E nm nm' fs gs u v xs ys CA EA qq, ds = [.ins C fs, .ins E gs] ∧ HD.Pp K T.C_Paper C nm fs u (.tup xs) ∧ HD.Pp K T.C_Paper E nm' gs v (.tup ys) ∧
  ((∀ x ∈ xs, ∀ y ∈ ys, (∃ fs, x = HD.D.ins CA fs) ∧ (∃ gs, y = HD.D.ins EA gs) ∧ (qq x y = false → ∃ k, HIn.dif k x y = true)) ∧ HP.EqCls K CA EA T.f_Paper_eq ∧ (∀ x ∈ xs, ∀ y ∈ ys, ∀ (m : Nat) (Pq : HD.I → Nat → Prop) (Z : HD.XD), Pq (.v (.bl (qq x y))) m → spd_Paper_eq T [x, y] m Pq Z)) ∧
  Q (.v (.bl (decide (nm = nm') && (decide (u = v) && HIn.eqL qq xs ys)))) n
theorem ok_Paper_eq1 (T : Tx P K mg) : FnOk P w K mg base CX0 6 T.f_Paper_eq T.fd_Paper_eq ["self", "other"] (HD.lift K (spd_Paper_eq1 T)) := by
  refine T.F_Paper_eq.ok sc_Paper_eq (fun vs H Q E h => ?_) (fun cdv A outer s H vs Q E hr h => ?_)
  · obtain ⟨cx, nn, args, Qd, Ed, hc, hsp⟩ := h
    obtain ⟨C, E, nm, nm', fs, gs, u, v, xs, ys, CA, EA, qq, rfl, p1, p2, ⟨hq1, hq2, hq3⟩, q⟩ := hsp
    exact hc.ra.len
  obtain ⟨cx, nn, args, Qd, Ed, hc, hsp⟩ := h
  obtain ⟨C, E, nm, nm', fs, gs, u, v, xs, ys, CA, EA, qq, rfl, p1, p2, ⟨hq1, hq2, hq3⟩, q⟩ := hsp
  refine ⟨_, (pss_cons (ps_if (PW.pt (pw_or (pt_not (pt_val (pe_callB (call_isiK' (K := K)) (by rfl) T.z_isinstance (by decide +kernel) (pa_cons (pv 1) (pa_cons (pe_glob (v := .ref T.C_Paper) (by rfl) T.g_Paper rfl) pa_nil))))) (pw_or1 (pt_cmpR (op_neK (K := K) hr.units) (HP.pe_name (K := K) (HP.pe_class (K := K) (pv 0))) (HP.pe_name (K := K) (HP.pe_class (K := K) (pv 1))) (nomark _))))) (pss_one (ps_ret pe_bl)) pss_nil)
      (pss_one (ps_ret (pe_callTy HC.call_boolU (by rfl) T.z_bool (by decide +kernel) (pa_cons (pe_and (pe_cmpR (op_eqK (K := K) hr.units) (HC.pe_fldK (K := K) (pv 0)) (HC.pe_fldK (K := K) (pv 1)) (nomark _)) (pe_one (pe_cmpR (HIn.op_eqTO (K := K) (ok_Paper_eq T) T.b_Paper_eq (hr.mono (by decide))) (HC.pe_fldK (K := K) (pv 0)) (HC.pe_fldK (K := K) (pv 1)) (nomark _)))) pa_nil))))), HD.enter (ρ := [HD.S.v (.ins C fs : HD.D), HD.S.v (.ins E gs : HD.D)]) hc rfl ?_⟩
  clear hc

  fail "dr"
  refine HD.isiO_ rfl p2.pc p2.pc.isP ?_
  fail "dr"
  refine ⟨_, _, rfl, p1.pc.hc, _, _, rfl, p1.pc.nm, ?_⟩
  fail "dr"
  refine ⟨_, _, rfl, p2.pc.hc, _, _, rfl, p2.pc.nm, ?_⟩
  fail "dr"
  refine HX.itend_ (fun h => ?_) (fun h => ?_)
  · rw [decide_eq_false h] at q
    fail "dr"
    exact q
  rw [decide_eq_true h] at q
  fail "dr"
  refine ⟨_, _, _, rfl, p1.pc.cl, p1.pc.word, p1.wd, ?_⟩
  fail "dr"
  refine ⟨_, _, _, rfl, p2.pc.cl, p2.pc.word, p2.wd, ?_⟩
  fail "dr"
  refine HX.ited_ (fun h2 => ?_) (fun h2 => ?_)
  · rw [decide_eq_true h2] at q
    fail "dr"
    refine ⟨_, _, _, rfl, p1.pc.cl, p1.pc.parts, p1.pt, ?_⟩
    fail "dr"
    refine ⟨_, _, _, rfl, p2.pc.cl, p2.pc.parts, p2.pt, ?_⟩
    refine HIn.tupO_ (C := CA) (E := EA) (xs := xs) (ys := ys) (q := qq) rfl rfl hq1 (fun _ _ => hq2) (fun x hx y hy Pq Z h => hq3 x hx y hy _ Pq Z h) ?_
    fail "dr"
    exact q
  · rw [decide_eq_false h2] at q
    fail "dr"
    exact q
def isI : HD.D → Bool
  | .int _ => true
  | _ => false
def spd_is_integer (ds : List HD.D) (n : Nat) (Q : HD.I → Nat → Prop) (_ : HD.XD) : Prop := ∃ (d : HD.D), ds = [d] ∧ (d.tn.isSome = true) ∧ Q (.v (.bl (isI d))) n
theorem use_is_integer {d : HD.D} {n : Nat} {Q : HD.I → Nat → Prop} {E : HD.XD} (h : d.tn.isSome = true) (q : Q (.v (.bl (isI d))) n) : spd_is_integer [d] n Q E := ⟨d, rfl, h, q⟩
theorem ok_is_integer (T : Tx P K mg) : FnOk P w K mg base CX0 1 T.f_is_integer T.fd_is_integer ["value"] (HD.lift K spd_is_integer) := by
  refine T.F_is_integer.ok sc_is_integer (fun vs H Q E h => ?_) (fun cdv A outer s H vs Q E hr h => ?_)
  · obtain ⟨cx, nn, args, Qd, Ed, hc, hsp⟩ := h
    obtain ⟨d, rfl, h, q⟩ := hsp
    exact hc.ra.len
  obtain ⟨cx, nn, args, Qd, Ed, hc, hsp⟩ := h
  obtain ⟨d, rfl, h, q⟩ := hsp
  refine ⟨_, (pss_one (ps_ret (pe_and (pe_callB (call_isiK' (K := K)) (by rfl) T.z_isinstance (by decide +kernel) (pa_cons (pv 0) (pa_cons (pe_bltn (v := .ty "int") (by rfl) T.z_int (by decide +kernel) rfl) pa_nil))) (pe_one (pe_not (pe_callB (call_isiK' (K := K)) (by rfl) T.z_isinstance (by decide +kernel) (pa_cons (pv 0) (pa_cons (pe_bltn (v := .ty "bool") (by rfl) T.z_bool (by decide +kernel) rfl) pa_nil)))))))), HD.enter (ρ := [HD.S.v (d : HD.D)]) hc rfl ?_⟩
  clear hc

  fail "dr"
  cases d <;> first | (simp [HD.D.tn] at h; done) | skip
  all_goals
    fail "dr"
    exact q
local macro_rules | `(tactic| fail "du") => `(tactic| ((with_reducible refine' use_is_integer ?h ?_); (case h => first | rfl | assumption)))
def isWi (d : HD.D) (lo hi : Option Int) : Bool := match d with
  | .int i => (match lo with | some l => decide (l ≤ i) | none => true) && (match hi with | some h => decide (i ≤ h) | none => true)
  | _ => false
def optD : Option Int → HD.D
  | some i => .int i
  | none => .non
def spd_is_within (ds : List HD.D) (n : Nat) (Q : HD.I → Nat → Prop) (_ : HD.XD) : Prop := ∃ d lo hi, ds = [d, optD lo, optD hi] ∧ d.tn.isSome = true ∧ Q (.v (.bl (isWi d lo hi))) n
theorem ok_is_within (T : Tx P K mg) : FnOk P w K mg base CX0 2 T.f_is_within T.fd_is_within ["value", "least", "most"] (HD.lift K spd_is_within) := by
  refine T.F_is_within.ok sc_is_within (fun vs H Q E h => ?_) (fun cdv A outer s H vs Q E hr h => ?_)
  · obtain ⟨cx, nn, args, Qd, Ed, hc, hsp⟩ := h
    obtain ⟨d, lo, hi, rfl, h, q⟩ := hsp
    exact hc.ra.len
  obtain ⟨cx, nn, args, Qd, Ed, hc, hsp⟩ := h
  obtain ⟨d, lo, hi, rfl, h, q⟩ := hsp
  refine ⟨_, (pss_cons (ps_if (PW.pt (pw_or (pt_not (pt_val (pe_call (ok_is_integer T) (hr.mono (by decide)) (by rfl) T.g_is_integer T.F_is_integer.kp T.b_is_integer .nil pass0 (pa_cons (pv 0) pa_nil)))) (pw_or1 (PW.pt (pw_and (pt_cmpR op_notNU (pv 1) pe_non (nomark _)) (pw_and1 (pt_cmpR op_lt (pv 0) (pv 1) (nomark _)))))))) (pss_one (ps_ret pe_bl)) pss_nil)
      (pss_one (ps_ret (pe_or (pe_cmpR op_isNU (pv 2) pe_non (nomark _)) (pe_one (pe_cmpR op_le (pv 0) (pv 2) (nomark _))))))), HD.enter (ρ := [HD.S.v (d : HD.D), HD.S.v (optD lo : HD.D), HD.S.v (optD hi : HD.D)]) hc rfl ?_⟩
  clear hc

  fail "dr"
  cases d <;> first | (simp [HD.D.tn] at h; done) | skip
  case int i =>
    cases lo <;> cases hi <;> simp only [optD]
    · fail "dr"
      exact q
    · fail "dr"
      simpa [isWi] using q
    · rename_i l
      fail "dr"
      refine HX.ited_ (fun h1 => ?_) (fun h1 => ?_)
      · fail "dr"
        have e : isWi (.int i) (some l) none = false := by simp only [isWi, Bool.and_true]; exact decide_eq_false (by omega)
        rw [e] at q
        exact q
      · fail "dr"
        have e : isWi (.int i) (some l) none = true := by simp only [isWi, Bool.and_true]; exact decide_eq_true (by omega)
        rw [e] at q
        exact q
    · rename_i l u
      fail "dr"
      refine HX.ited_ (fun h1 => ?_) (fun h1 => ?_)
      · fail "dr"
        have e : isWi (.int i) (some l) (some u) = false := by simp only [isWi]; rw [decide_eq_false (by omega : ¬ l ≤ i), Bool.false_and]
        rw [e] at q
        exact q
      · fail "dr"
        have e : isWi (.int i) (some l) (some u) = decide (i ≤ u) := by simp only [isWi]; rw [decide_eq_true (by omega : l ≤ i), Bool.true_and]
        rw [e] at q
        exact q
  all_goals
    fail "dr"
    exact q
theorem use_is_within {v lo hi : Int} {n : Nat} {Q : HD.I → Nat → Prop} {E : HD.XD} (h : lo ≤ v ∧ v ≤ hi) (q : Q (.v (.bl true)) n) : spd_is_within [.int v, .int lo, .int hi] n Q E := ⟨.int v, some lo, some hi, rfl, rfl, by
  have e : isWi (.int v) (some lo) (some hi) = true := by simp only [isWi]; rw [decide_eq_true h.1, decide_eq_true h.2]; rfl
  rw [e]; exact q⟩
local macro_rules | `(tactic| fail "du") => `(tactic| ((with_reducible refine' use_is_within ?h ?_); (case h => constructor <;> omega)))
def spd_is_row (ds : List HD.D) (n : Nat) (Q : HD.I → Nat → Prop) (_ : HD.XD) : Prop := ∃ (d : HD.D), ds = [d] ∧ (d.tn.isSome = true ∧ (∀ xs, d.seq = some xs → xs.length ≤ 1000 ∧ ∀ x ∈ xs, x.tn.isSome = true)) ∧ Q (.v (.bl ((d.seq.map fun xs => xs.all isI) == some true))) n
theorem use_is_row {d : HD.D} {n : Nat} {Q : HD.I → Nat → Prop} {E : HD.XD} (h : d.tn.isSome = true ∧ (∀ xs, d.seq = some xs → xs.length ≤ 1000 ∧ ∀ x ∈ xs, x.tn.isSome = true)) (q : Q (.v (.bl ((d.seq.map fun xs => xs.all isI) == some true))) n) : spd_is_row [d] n Q E := ⟨d, rfl, h, q⟩
theorem ok_is_row (T : Tx P K mg) : FnOk P w K mg base CX0 2 T.f_is_row T.fd_is_row ["value"] (HD.lift K spd_is_row) := by
  refine T.F_is_row.ok sc_is_row (fun vs H Q E h => ?_) (fun cdv A outer s H vs Q E hr h => ?_)
  · obtain ⟨cx, nn, args, Qd, Ed, hc, hsp⟩ := h
    obtain ⟨d, rfl, h, q⟩ := hsp
    exact hc.ra.len
  obtain ⟨cx, nn, args, Qd, Ed, hc, hsp⟩ := h
  obtain ⟨d, rfl, h, q⟩ := hsp
  refine ⟨_, (pss_one (ps_ret (pe_and (pe_callB (HD.call_isiTU (K := K)) (by rfl) T.z_isinstance (by decide +kernel) (pa_cons (pv 0) (pa_cons (pe_tup (pa_cons (pe_bltn (v := .ty "list") (by rfl) T.z_list (by decide +kernel) rfl) (pa_cons (pe_bltn (v := .ty "tuple") (by rfl) T.z_tuple (by decide +kernel) rfl) pa_nil))) pa_nil))) (pe_one (pe_callB (cr_allK (K := K) (by rfl)) (by rfl) T.z_all (by decide +kernel) (pa_cons (pe_lc (own := [("part", 1)]) (g := gName 1) (tt := tYes) (by rfl) sc_is_row.nd (HC.pi_seqK (K := K) (pv 0)) (blkOk_by (own := [("part", 1)]) (N := n_is_row) (sc := defScope s_is_row) (by decide +kernel)) (fun _ _ _ _ _ => (pg_name (i := 1) sc_is_row.nd rfl (by first | exact .inl rfl | exact .inr rfl))) (fun _ _ _ _ _ => pts_nil) (fun _ _ _ _ _ => (pe_call (ok_is_integer T) (hr.mono (by decide)) (by rfl) T.g_is_integer T.F_is_integer.kp T.b_is_integer .nil pass0 (pa_cons (pv 1) pa_nil)))) pa_nil)))))), HD.enter (ρ := [HD.S.v (d : HD.D), HD.S.un]) hc rfl ?_⟩
  clear hc

  obtain ⟨h1, h2⟩ := h
  obtain ⟨t, et⟩ := Option.isSome_iff_exists.mp h1
  fail "dr"
  refine HD.isiTB_ (it := .v d) et rfl (HD.sq_kit et) ?_
  fail "dr"
  cases d with
  | lst xs =>
    obtain ⟨hl, hx⟩ := h2 xs rfl
    refine HX.iteT_ rfl ?_
    fail "dr"
    refine HD.iseqL_ ?_
    fail "dr"
    refine HD.CpD.mapD (fun d => .bl (isI d)) (by omega) (fun x hx2 ys => ?_) ?_
    · have := hx x hx2
      fail "dr"
      exact ⟨rfl, rfl, rfl⟩
    · fail "dr"
      refine HD.all_ (it := .o (.lst (xs.map fun d => .bl (isI d)))) (bs := xs.map isI) (by show HD.D.lst _ = _; rw [List.map_map]; rfl) ?_
      fail "dr"
      rw [show ((xs.map isI).all id) = (Option.map (fun xs => xs.all isI) (HD.D.lst xs).seq == some true) from by rw [List.all_map]; show _ = (some _ == some true); cases h : xs.all isI <;> simp [Function.comp_def, h]]
      exact q
  | tup xs =>
    obtain ⟨hl, hx⟩ := h2 xs rfl
    refine HX.iteT_ rfl ?_
    fail "dr"
    refine HD.iseqT_ ?_
    fail "dr"
    refine HD.CpD.mapD (fun d => .bl (isI d)) (by omega) (fun x hx2 ys => ?_) ?_
    · have := hx x hx2
      fail "dr"
      exact ⟨rfl, rfl, rfl⟩
    · fail "dr"
      refine HD.all_ (it := .o (.lst (xs.map fun d => .bl (isI d)))) (bs := xs.map isI) (by show HD.D.lst _ = _; rw [List.map_map]; rfl) ?_
      fail "dr"
      rw [show ((xs.map isI).all id) = (Option.map (fun xs => xs.all isI) (HD.D.tup xs).seq == some true) from by rw [List.all_map]; show _ = (some _ == some true); cases h : xs.all isI <;> simp [Function.comp_def, h]]
      exact q
  | _ => exact q
local macro_rules | `(tactic| fail "du") => `(tactic| ((with_reducible refine' use_is_row ?h ?_); (case h => assumption)))
/-- bits, rows, cases as data -/
@[reducible] def bi (b : Bool) : Int := (b.toNat : Int)
@[reducible] def bitD (b : Bool) : HD.D := .int (bi b)
def rowD (r : List Bool) : HD.D := .tup (r.map bitD)
@[reducible] def caseD (c : List Bool × Bool) : HD.D := .tup [rowD c.1, bitD c.2]
theorem bi_cases (b : Bool) : bi b = 0 ∨ bi b = 1 := by cases b <;> simp [bi]
theorem bi_bd (b : Bool) : 0 ≤ bi b ∧ bi b ≤ 1 := by cases b <;> simp [bi]
theorem rowD_ints (r : List Bool) : rowD r = .tup ((r.map bi).map HD.D.int) := by rw [rowD, List.map_map]; rfl
theorem rowD_nob {k : Nat} (r : List Bool) : HS2.nob (k + 1) (rowD r) = true := by rw [rowD_ints]; exact HS2.nob_intsT _
theorem bi_inj {a b : Bool} (h : bi a = bi b) : a = b := by cases a <;> cases b <;> simp [bi] at h <;> rfl
theorem map_bi_inj : ∀ {r s : List Bool}, r.map bi = s.map bi → r = s
  | [], [], _ => rfl
  | [], _ :: _, h => by cases h
  | _ :: _, [], h => by cases h
  | a :: r, b :: s, h => by
    rw [List.map_cons, List.map_cons] at h
    rw [bi_inj (List.cons.inj h).1, map_bi_inj (List.cons.inj h).2]
theorem rowD_inj {r s : List Bool} (h : rowD r = rowD s) : r = s := by
  rw [rowD_ints, rowD_ints] at h
  injection h with h
  exact map_bi_inj (HS2.ints_inj.mp h)
theorem caseD_nob {k : Nat} (c : List Bool × Bool) : HS2.nob (k + 2) (caseD c) = true := by
  rw [caseD, HS2.nob_tup]
  simp only [List.all_cons, List.all_nil, Bool.and_true]
  rw [rowD_nob]
  exact HS2.nob_int
theorem caseD_inj {c d : List Bool × Bool} (h : caseD c = caseD d) : c = d := by
  obtain ⟨r, o⟩ := c
  obtain ⟨s, u⟩ := d
  injection h with h
  injection h with h1 h2
  injection h2 with h2
  injection h2 with h2
  have e1 : r = s := rowD_inj h1
  have e2 : o = u := bi_inj h2
  rw [e1, e2]
theorem bits_isI (r : List Bool) : (r.map bitD).all isI = true := by
  rw [List.all_map, List.all_eq_true]; intro x _; rfl
def spd_are_bits (ds : List HD.D) (n : Nat) (Q : HD.I → Nat → Prop) (_ : HD.XD) : Prop := ∃ (d : HD.D) (r : List Bool), ds = [d] ∧ (d.seq = some (r.map bitD) ∧ r.length ≤ 1000) ∧ Q (.v (.bl true)) n
theorem use_are_bits {d : HD.D} {r : List Bool} {n : Nat} {Q : HD.I → Nat → Prop} {E : HD.XD} (h : d.seq = some (r.map bitD) ∧ r.length ≤ 1000) (q : Q (.v (.bl true)) n) : spd_are_bits [d] n Q E := ⟨d, r, rfl, h, q⟩
theorem ok_are_bits (T : Tx P K mg) : FnOk P w K mg base CX0 3 T.f_are_bits T.fd_are_bits ["value"] (HD.lift K spd_are_bits) := by
  refine T.F_are_bits.ok sc_are_bits (fun vs H Q E h => ?_) (fun cdv A outer s H vs Q E hr h => ?_)
  · obtain ⟨cx, nn, args, Qd, Ed, hc, hsp⟩ := h
    obtain ⟨d, r, rfl, h, q⟩ := hsp
    exact hc.ra.len
  obtain ⟨cx, nn, args, Qd, Ed, hc, hsp⟩ := h
  obtain ⟨d, r, rfl, h, q⟩ := hsp
  refine ⟨_, (pss_one (ps_ret (pe_and (pe_call (ok_is_row T) (hr.mono (by decide)) (by rfl) T.g_is_row T.F_is_row.kp T.b_is_row .nil pass0 (pa_cons (pv 0) pa_nil)) (pe_one (pe_callB (cr_allK (K := K) (by rfl)) (by rfl) T.z_all (by decide +kernel) (pa_cons (pe_lc (own := [("bit", 1)]) (g := gName 1) (tt := tYes) (by rfl) sc_are_bits.nd (HS2.pi_seqU (K := K) (pv 0)) (blkOk_by (own := [("bit", 1)]) (N := n_are_bits) (sc := defScope s_are_bits) (by decide +kernel)) (fun _ _ _ _ _ => (pg_name (i := 1) sc_are_bits.nd rfl (by first | exact .inl rfl | exact .inr rfl))) (fun _ _ _ _ _ => pts_nil) (fun _ _ _ _ _ => (pe_cmpR (op_inK (K := K)) (pv 1) (pe_tup (pa_cons pe_int (pa_cons pe_int pa_nil))) (by rfl)))) pa_nil)))))), HD.enter (ρ := [HD.S.v (d : HD.D), HD.S.un]) hc rfl ?_⟩
  clear hc

  obtain ⟨h1, h2⟩ := h
  fail "dr"
  refine use_is_row ⟨HS2.seq_tn h1, fun xs e => ?_⟩ ?_
  · rw [h1] at e; cases e
    refine ⟨by rw [List.length_map]; exact h2, fun x hx => ?_⟩
    obtain ⟨b, _, rfl⟩ := List.mem_map.mp hx
    rfl
  rw [h1]
  dsimp only [Option.map]
  rw [bits_isI]
  fail "dr"
  refine HD.CpD.mapD (fun _ => .bl true) (by rw [List.length_map]; omega) (fun x hx ys => ?_) ?_
  · obtain ⟨b, _, rfl⟩ := List.mem_map.mp hx
    fail "dr"
    refine HD.in_ rfl rfl rfl ?_
    have e : HD.inF (bitD b) [.int 0, .int 1] = true := by cases b <;> rfl
    fail "dr"
    refine ⟨congrArg HD.D.bl e, rfl, rfl⟩
  · fail "dr"
    refine HD.all_ (it := .o (.lst ((r.map bitD).map fun _ => .bl true))) (bs := (r.map bitD).map fun _ => true) (by show HD.D.lst _ = _; simp [List.map_map, Function.comp_def]) ?_
    fail "dr"
    rw [show (((r.map bitD).map fun _ => true).all id) = true from by simp]
    exact q
local macro_rules | `(tactic| fail "du") => `(tactic| ((with_reducible refine' use_are_bits ?h ?_); (case h => assumption)))
/-- data that tell a case, by a list or a tuple, its row by either -/
def CaseR (d : HD.D) (c : List Bool × Bool) : Prop := ∃ rd, d.seq = some [rd, bitD c.2] ∧ rd.seq = some (c.1.map bitD)
inductive CsOk : List HD.D → List (List Bool × Bool) → Prop
  | nil : CsOk [] []
  | cons {d : HD.D} {c : List Bool × Bool} {ds : List HD.D} {cs : List (List Bool × Bool)} : CaseR d c → CsOk ds cs → CsOk (d :: ds) (c :: cs)
theorem CsOk.len : ∀ {ds : List HD.D} {cs : List (List Bool × Bool)}, CsOk ds cs → ds.length = cs.length
  | _, _, .nil => rfl
  | _, _, .cons _ b => by rw [List.length_cons, List.length_cons, b.len]
theorem CsOk.at : ∀ {ds : List HD.D} {cs : List (List Bool × Bool)} {i : Nat} {d : HD.D}, CsOk ds cs → ds[i]? = some d → ∃ c, cs[i]? = some c ∧ CaseR d c
  | _, _, _, _, .nil, e => by cases e
  | _, _, 0, _, .cons a _, e => by cases e; exact ⟨_, rfl, a⟩
  | _, _, i + 1, _, .cons _ b, e => CsOk.at (i := i) b e
theorem caseR (c : List Bool × Bool) : CaseR (caseD c) c := ⟨rowD c.1, rfl, rfl⟩
theorem csOk : ∀ cs : List (List Bool × Bool), CsOk (cs.map caseD) cs
  | [] => .nil
  | c :: cs => .cons (caseR c) (csOk cs)
theorem CsOk.append : ∀ {ds es : List HD.D} {cs cs' : List (List Bool × Bool)}, CsOk ds cs → CsOk es cs' → CsOk (ds ++ es) (cs ++ cs')
  | _, _, _, _, .nil, h => h
  | _, _, _, _, .cons a b, h => .cons a (b.append h)
theorem take_map_succ {α β : Type} (f : α → β) {xs : List α} {i : Nat} {x : α} (h : xs[i]? = some x) : (xs.take (i + 1)).map f = (xs.take i).map f ++ [f x] := by rw [List.take_add_one, h, List.map_append]; rfl
def spd_cases_told (ds : List HD.D) (n : Nat) (Q : HD.I → Nat → Prop) (_ : HD.XD) : Prop := ∃ (d : HD.D) (p : Nat) (es : List HD.D) (cs : List (List Bool × Bool)), ds = [d, .int (p : Int)] ∧ ((d.seq = some es ∧ CsOk es cs) ∧ (∀ c ∈ cs, c.1.length = p) ∧ p ≤ 6 ∧ cs.length ≤ 100) ∧ Q (.o (.lst (cs.map caseD))) n
theorem use_cases_told {d : HD.D} {p : Nat} {es : List HD.D} {cs : List (List Bool × Bool)} {n : Nat} {Q : HD.I → Nat → Prop} {E : HD.XD} (h : (d.seq = some es ∧ CsOk es cs) ∧ (∀ c ∈ cs, c.1.length = p) ∧ p ≤ 6 ∧ cs.length ≤ 100) (q : Q (.o (.lst (cs.map caseD))) n) : spd_cases_told [d, .int (p : Int)] n Q E := ⟨d, p, es, cs, rfl, h, q⟩
theorem ok_cases_told (T : Tx P K mg) : FnOk P w K mg base CX0 4 T.f_cases_told T.fd_cases_told ["value", "places"] (HD.lift K spd_cases_told) := by
  refine T.F_cases_told.ok sc_cases_told (fun vs H Q E h => ?_) (fun cdv A outer s H vs Q E hr h => ?_)
  · obtain ⟨cx, nn, args, Qd, Ed, hc, hsp⟩ := h
    obtain ⟨d, p, es, cs, rfl, h, q⟩ := hsp
    exact hc.ra.len
  obtain ⟨cx, nn, args, Qd, Ed, hc, hsp⟩ := h
  obtain ⟨d, p, es, cs, rfl, h, q⟩ := hsp
  refine ⟨_, (pss_cons (ps_if (pt_not (pt_val (pe_callB (HD.call_isiTU (K := K)) (by rfl) T.z_isinstance (by decide +kernel) (pa_cons (pv 0) (pa_cons (pe_tup (pa_cons (pe_bltn (v := .ty "list") (by rfl) T.z_list (by decide +kernel) rfl) (pa_cons (pe_bltn (v := .ty "tuple") (by rfl) T.z_tuple (by decide +kernel) rfl) pa_nil))) pa_nil))))) (pss_one (ps_ret pe_non)) pss_nil)
      (pss_cons (ps_set (i := 2) sc_cases_told.nd rfl (by first | exact .inl rfl | exact .inr rfl) (pe_lst pa_nil))
      (pss_cons (ps_for PassesOwn.never (by rfl) (HS2.pi_seqU (K := K) (pv 0)) (pg_name (i := 3) sc_cases_told.nd rfl (by first | exact .inl rfl | exact .inr rfl)) (pss_cons (ps_if (PW.pt (pw_or (pt_not (pt_val (pe_callB (HD.call_isiTU (K := K)) (by rfl) T.z_isinstance (by decide +kernel) (pa_cons (pv 3) (pa_cons (pe_tup (pa_cons (pe_bltn (v := .ty "list") (by rfl) T.z_list (by decide +kernel) rfl) (pa_cons (pe_bltn (v := .ty "tuple") (by rfl) T.z_tuple (by decide +kernel) rfl) pa_nil))) pa_nil))))) (pw_or1 (pt_cmpR (op_neK (K := K) hr.units) (pe_callB (call_lenK (K := K)) (by rfl) T.z_len (by decide +kernel) (pa_cons (pv 3) pa_nil)) pe_int (nomark _))))) (pss_one (ps_ret pe_non)) pss_nil)
      (pss_cons (ps_asg (pv 3) (HU.pg_seqK (K := K) 2 (by rfl) (pgs_cons (pg_name (i := 4) sc_cases_told.nd rfl (by first | exact .inl rfl | exact .inr rfl)) (pgs_cons (pg_name (i := 5) sc_cases_told.nd rfl (by first | exact .inl rfl | exact .inr rfl)) pgs_nil))))
      (pss_cons (ps_if (PW.pt (pw_or (pt_not (pt_val (pe_call (ok_are_bits T) (hr.mono (by decide)) (by rfl) T.g_are_bits T.F_are_bits.kp T.b_are_bits .nil pass0 (pa_cons (pv 4) pa_nil)))) (pw_or (pt_cmpR (op_neK (K := K) hr.units) (pe_callB (call_lenK (K := K)) (by rfl) T.z_len (by decide +kernel) (pa_cons (pv 4) pa_nil)) (pv 1) (nomark _)) (pw_or1 (pt_not (pt_val (pe_call (ok_is_within T) (hr.mono (by decide)) (by rfl) T.g_is_within T.F_is_within.kp T.b_is_within .nil pass0 (pa_cons (pv 5) (pa_cons pe_int (pa_cons pe_int pa_nil)))))))))) (pss_one (ps_ret pe_non)) pss_nil)
      (pss_one (ps_expr (HD.pe_bmK (K := K) PySem.F.plainAttrs_list PySem.F.slot_list_append PySem.F.type_list_append mt_append (pv 2) (pa_cons (pe_tup (pa_cons (pe_callTy (call_tupleK (K := K)) (by rfl) T.z_tuple (by decide +kernel) (pa_cons (pv 4) pa_nil)) (pa_cons (pv 5) pa_nil))) pa_nil))))))))
      (pss_one (ps_ret (pv 2)))))), HD.enter (ρ := [HD.S.v (d : HD.D), HD.S.v (.int (p : Int) : HD.D), HD.S.un, HD.S.un, HD.S.un, HD.S.un]) hc rfl ?_⟩
  clear hc

  obtain ⟨⟨h1, h2⟩, h3, h4, h5⟩ := h
  have hlen := h2.len
  fail "dr"
  refine HD.ForD.inv (fun i ρ m => m = nn ∧ ∃ x3 x4 x5, ρ = [.v d, .v (.int (p : Int)), .ow (.lst ((cs.take i).map caseD)), x3, x4, x5]) ⟨rfl, _, _, _, rfl⟩ (fun i x ρ m hx hi hp => ?_) (fun ρ m hp => ?_)
  · obtain ⟨rfl, x3, x4, x5, rfl⟩ := hp
    obtain ⟨cc, hc, rd, e1, e2⟩ := h2.at hx
    have hm : cc ∈ cs := List.mem_of_getElem? hc
    have hcl := h3 cc hm
    fail "dr"
    refine HD.len_ (xs := [rd, bitD cc.2]) e1 ?_
    fail "dr"
    refine HS2.gseq_ e1 rfl ?_
    fail "dr"
    refine use_are_bits ⟨e2, by omega⟩ ?_
    fail "dr"
    refine HD.len_ e2 ?_
    rw [List.length_map, hcl]
    fail "dr"
    refine use_is_within (bi_bd cc.2) ?_
    fail "dr"
    refine HS2.tupleOf_ e2 fun ρ' hρ => ?_
    have hρ : ρ' = [.v d, .v (.int (p : Int)), .ow (.lst ((cs.take i).map caseD)), .v x, .v rd, .v (bitD cc.2)] := hρ.elim id id
    subst hρ
    fail "dr"
    refine HD.append_ rfl rfl (Nat.ble_eq_true_of_le (by rw [List.length_map, List.length_take]; omega)) ?_
    fail "dr"
    exact ⟨rfl, _, _, _, by rw [take_map_succ caseD hc]; rfl⟩
  · obtain ⟨rfl, x3, x4, x5, rfl⟩ := hp
    rw [hlen, List.take_length]
    fail "dr"
    exact q
local macro_rules | `(tactic| fail "du") => `(tactic| ((with_reducible refine' use_cases_told ?h ?_); (case h => exact ⟨⟨rfl, by assumption⟩, by assumption, by omega, by assumption⟩)))
/-- all unlike, as need_each_once wants it -/
def Once (xs : List HD.D) : Prop := xs.Nodup ∧ xs.length ≤ 1000 ∧ ∃ k, Nat.ble (k + 1) 60 = true ∧ ∀ x ∈ xs, HS2.nob k x = true
theorem mem_take_ne {α : Type} {xs : List α} (h : xs.Nodup) {i : Nat} {x : α} (e : xs[i]? = some x) : x ∉ xs.take i := by
  intro hm
  obtain ⟨j, hj, ej⟩ := List.getElem_of_mem hm
  rw [List.length_take] at hj
  rw [List.getElem_take] at ej
  obtain ⟨hi, ei⟩ := List.getElem?_eq_some_iff.mp e
  have := (List.getElem_inj (h₀ := by omega) (h₁ := hi) h).mp (ej.trans ei.symm)
  omega
def spd_need_each_once (ds : List HD.D) (n : Nat) (Q : HD.I → Nat → Prop) (_ : HD.XD) : Prop := ∃ (d : HD.D) (es : List HD.D), ds = [d] ∧ (d = .lst es ∧ Once es) ∧ Q (.v .non) n
theorem use_need_each_once {d : HD.D} {es : List HD.D} {n : Nat} {Q : HD.I → Nat → Prop} {E : HD.XD} (h : d = .lst es ∧ Once es) (q : Q (.v .non) n) : spd_need_each_once [d] n Q E := ⟨d, es, rfl, h, q⟩
theorem ok_need_each_once (T : Tx P K mg) : FnOk P w K mg base CX0 3 T.f_need_each_once T.fd_need_each_once ["values"] (HD.lift K spd_need_each_once) := by
  refine T.F_need_each_once.ok sc_need_each_once (fun vs H Q E h => ?_) (fun cdv A outer s H vs Q E hr h => ?_)
  · obtain ⟨cx, nn, args, Qd, Ed, hc, hsp⟩ := h
    obtain ⟨d, es, rfl, h, q⟩ := hsp
    exact hc.ra.len
  obtain ⟨cx, nn, args, Qd, Ed, hc, hsp⟩ := h
  obtain ⟨d, es, rfl, h, q⟩ := hsp
  refine ⟨_, (pss_one (ps_for PassesOwn.never (by rfl) (HW.pi_enK (K := K) (by rfl) T.z_enumerate (pa_cons (pv 0) pa_nil)) (pg_tupK (K := K) 2 (by rfl) (pgs_cons (pg_name (i := 1) sc_need_each_once.nd rfl (by first | exact .inl rfl | exact .inr rfl)) (pgs_cons (pg_name (i := 2) sc_need_each_once.nd rfl (by first | exact .inl rfl | exact .inr rfl)) pgs_nil))) (pss_one (ps_if (pt_cmpR (HY.op_inDK (K := K) (HY.units65 hr)) (pv 2) (pe_slice (sl_K (K := K)) (pv 0) po_none (po_some (pv 1))) (by rfl)) (pss_one ps_never) pss_nil)))), HD.enter (ρ := [HD.S.v (d : HD.D), HD.S.un, HD.S.un]) hc rfl ?_⟩
  clear hc

  obtain ⟨rfl, hn, hl, k, hk, ho⟩ := h
  fail "dr"
  refine HD.ForD.inv (fun i ρ m => m = nn ∧ ∃ x1 x2, ρ = [.v (.lst es), x1, x2]) ⟨rfl, _, _, rfl⟩ (fun i x ρ m hx hi hp => ?_) (fun ρ m hp => ?_)
  · obtain ⟨rfl, x1, x2, rfl⟩ := hp
    obtain ⟨y, hy, rfl⟩ := HW.enumD_at hx
    fail "dr"
    rw [HS2.cutD_to]
    refine HS2.inN_ k k rfl (ho y (List.mem_of_getElem? hy)) (fun z hz => ho z (List.mem_of_mem_take hz)) (Nat.ble_eq_true_of_le (by have := Nat.le_of_ble_eq_true hk; omega)) (Nat.ble_eq_true_of_le (by have := Nat.le_of_ble_eq_true hk; omega)) ?_
    rw [show HS2.inB (HD.I.v y).val (es.take i) = false from HS2.inB_false (mem_take_ne hn hy)]
    fail "dr"
    exact ⟨rfl, _, _, rfl⟩
  · obtain ⟨rfl, x1, x2, rfl⟩ := hp
    fail "dr"
    exact q
local macro_rules | `(tactic| fail "du") => `(tactic| ((with_reducible refine' use_need_each_once ?h ?_); (case h => exact ⟨rfl, by assumption⟩)))
def fstD : HD.D → HD.D
  | .tup (r :: _) => r
  | _ => .non
def sndD : HD.D → HD.D
  | .tup [_, r] => r
  | _ => .non
theorem map_fst (cs : List (List Bool × Bool)) : (cs.map caseD).map fstD = cs.map fun c => rowD c.1 := by rw [List.map_map]; rfl
theorem map_snd (cs : List (List Bool × Bool)) : (cs.map caseD).map sndD = cs.map fun c => bitD c.2 := by rw [List.map_map]; rfl
/-- the fields of a book -/
def bookF (p : Nat) (cs : List (List Bool × Bool)) : List (Str × HD.D) := [("places", .int (p : Int)), ("cases", .tup (cs.map caseD)), ("rows", .tup (cs.map fun c => rowD c.1)), ("outcomes", .tup (cs.map fun c => bitD c.2))]
def bookD (T : Tx P K mg) (p : Nat) (cs : List (List Bool × Bool)) : HD.D := .ins T.C_Book (bookF p cs)
/-- what makes a book -/
structure BookOk (p : Nat) (cs : List (List Bool × Bool)) : Prop where
  p1 : 1 ≤ p
  p6 : p ≤ 6
  len : ∀ c ∈ cs, c.1.length = p
  once : (cs.map (·.1)).Nodup
  few : cs.length ≤ 16
theorem rows_once {p : Nat} {cs : List (List Bool × Bool)} (h : BookOk p cs) : Once (cs.map fun c => rowD c.1) := by
  refine ⟨?_, by rw [List.length_map]; have := h.few; omega, 1, rfl, fun x hx => ?_⟩
  · have e : (cs.map fun c => rowD c.1) = (cs.map (·.1)).map rowD := by rw [List.map_map]; rfl
    rw [e]
    exact List.Pairwise.map _ (fun a b hab hz => hab (rowD_inj hz)) h.once
  · obtain ⟨c, _, rfl⟩ := List.mem_map.mp hx
    exact rowD_nob _
def spi_Book_init (ds : List HD.D) (n : Nat) (Q : List (Str × HD.D) → Nat → Prop) (_ : HD.XD) : Prop := ∃ (p : Nat) (v : HD.D) (es : List HD.D) (cs : List (List Bool × Bool)), ds = [.int (p : Int), v] ∧ (v.seq = some es ∧ CsOk es cs) ∧ BookOk p cs ∧ Q (bookF p cs) n
theorem okF_Book_init (T : Tx P K mg) : FnOk P w K mg base CX0 5 T.f_Book_init T.fd_Book_init ["self", "places", "cases"] (HD.liftI K T.C_Book spi_Book_init) := by
  refine T.F_Book_init.ok sc_Book_init (fun vs H Q E h => ?_) (fun cdv A outer s H vs Q E hr h => ?_)
  · obtain ⟨cx, nn, x, dx, ws, args, Qd, Ed, rfl, hc, p, v, es, cs, rfl, _⟩ := h
    exact congrArg (· + 1) hc.ra.len
  obtain ⟨cx, nn, x, dx, ws, args, Qd, Ed, rfl, hc, p, v, es, cs, rfl, ⟨h1, h2⟩, hb, q⟩ := h
  have hwl : ws.length = 2 := hc.ra.len
  match ws, hwl with
  | [w1, w2], _ =>
  refine ⟨_, (pss_cons (ps_if (pt_not (pt_val (pe_call (ok_is_within T) (hr.mono (by decide)) (by rfl) T.g_is_within T.F_is_within.kp T.b_is_within .nil pass0 (pa_cons (pv 1) (pa_cons pe_int (pa_cons (pe_glob (by rfl) T.c_MOST_PLACES T.r_MOST_PLACES) pa_nil)))))) (pss_one ps_never) pss_nil)
      (pss_cons (ps_set (i := 3) sc_Book_init.nd rfl (by first | exact .inl rfl | exact .inr rfl) (pe_call (ok_cases_told T) (hr.mono (by decide)) (by rfl) T.g_cases_told T.F_cases_told.kp T.b_cases_told .nil pass0 (pa_cons (pv 2) (pa_cons (pv 1) pa_nil))))
      (pss_cons (ps_if (pt_cmpR op_isNU (pv 3) pe_non (nomark _)) (pss_one ps_never) pss_nil)
      (pss_cons (ps_setLc (i := 6) (own := [("row", 4), ("_", 5)]) (tt := tYes) (by rfl) sc_Book_init.nd rfl rfl (sw_true rfl rfl rfl (by decide +kernel)) (pi_listK (K := K) (pv 3)) (blkOk_by (own := [("row", 4), ("_", 5)]) (N := n_Book_init) (sc := defScope s_Book_init) (by decide +kernel)) (fun _ _ _ _ _ => (pg_tupK (K := K) 2 (by rfl) (pgs_cons (pg_name (i := 4) sc_Book_init.nd rfl (by first | exact .inl rfl | exact .inr rfl)) (pgs_cons (pg_name (i := 5) sc_Book_init.nd rfl (by first | exact .inl rfl | exact .inr rfl)) pgs_nil)))) (fun _ _ _ _ _ => pts_nil) (fun _ _ _ _ _ => (pv 4)))
      (pss_cons (ps_expr (pe_call (ok_need_each_once T) (hr.mono (by decide)) (by rfl) T.g_need_each_once T.F_need_each_once.kp T.b_need_each_once .nil pass0 (pa_cons (pv 6) pa_nil)))
      (pss_cons (ps_if (pt_cmpR op_gt (pe_callB (call_lenK (K := K)) (by rfl) T.z_len (by decide +kernel) (pa_cons (pv 3) pa_nil)) (pe_glob (by rfl) T.c_MOST_CASES T.r_MOST_CASES) (nomark _)) (pss_one ps_never) pss_nil)
      (pss_cons (HC.ps_fldK (K := K) (pv 0) (pv 1))
      (pss_cons (HC.ps_fldK (K := K) (pv 0) (pe_callTy (call_tupleK (K := K)) (by rfl) T.z_tuple (by decide +kernel) (pa_cons (pv 3) pa_nil)))
      (pss_cons (HC.ps_fldK (K := K) (pv 0) (pe_callTy (call_tupleK (K := K)) (by rfl) T.z_tuple (by decide +kernel) (pa_cons (pv 6) pa_nil)))
      (pss_one (HC.ps_fldK (K := K) (pv 0) (pe_callTy (call_tupleK (K := K)) (by rfl) T.z_tuple (by decide +kernel) (pa_cons (pe_lc (own := [("_", 5), ("outcome", 7)]) (tt := tYes) (by rfl) sc_Book_init.nd (pi_listK (K := K) (pv 3)) (blkOk_by (own := [("_", 5), ("outcome", 7)]) (N := n_Book_init) (sc := defScope s_Book_init) (by decide +kernel)) (fun _ _ _ _ _ => (pg_tupK (K := K) 2 (by rfl) (pgs_cons (pg_name (i := 5) sc_Book_init.nd rfl (by first | exact .inl rfl | exact .inr rfl)) (pgs_cons (pg_name (i := 7) sc_Book_init.nd rfl (by first | exact .inl rfl | exact .inr rfl)) pgs_nil)))) (fun _ _ _ _ _ => pts_nil) (fun _ _ _ _ _ => (pv 7))) pa_nil))))))))))))), ?_⟩
  refine HX.start_ (σ := [some (V.ref x), some w1, some w2, none, none, none, none, none]) rfl ?_
  refine HD.enterI hc (m := 5) (es := [.int (p : Int), v]) rfl (fun L s => ?_)
  refine (?_ : HD.GS cx _ nn [] _ ⟨fun ρ m => ∃ fs, ρ[0]? = some (.me x (.ins T.C_Book fs)) ∧ Qd fs m, fun _ _ => False, fun _ _ => False, fun _ _ => False⟩) _ _ _ _ ⟨_, _, s⟩ ⟨fun ρ n σ H ⟨fs, h0, q⟩ s => HD.leaveI hc s h0 q, fun _ _ _ _ q => q.elim, fun _ _ _ _ q => q.elim, fun _ _ _ _ q => q.elim⟩
  clear s hc
  dsimp only [List.map, List.replicate, List.cons_append, List.nil_append]
  have hp1 := hb.p1
  have hp6 := hb.p6
  have hf := hb.few
  fail "dr"
  refine use_cases_told ⟨⟨h1, h2⟩, hb.len, hp6, by omega⟩ ?_
  fail "dr"
  refine HD.CpD.mapD fstD (by rw [List.length_map]; omega) (fun y hy ys => ?_) ?_
  · obtain ⟨c, _, rfl⟩ := List.mem_map.mp hy
    fail "dr"
    exact ⟨rfl, rfl, rfl⟩
  rw [map_fst]
  fail "dr"
  refine use_need_each_once ⟨rfl, rows_once hb⟩ ?_
  fail "dr"
  rw [List.length_map]
  fail "dr"
  refine HD.CpD.mapD sndD (by rw [List.length_map]; omega) (fun y hy ys => ?_) ?_
  · obtain ⟨c, _, rfl⟩ := List.mem_map.mp hy
    fail "dr"
    exact ⟨rfl, rfl, rfl⟩
  rw [map_snd]
  fail "dr"
  refine ⟨_, rfl, ?_⟩
  exact q
theorem ok_Book_init (T : Tx P K mg) : FnR P w K mg base CX0 5 T.f_Book_init (HD.liftI K T.C_Book spi_Book_init) := HY.fnr_ok0 (okF_Book_init T) T.b_Book_init
theorem use_Book_init {p : Nat} {v : HD.D} {es : List HD.D} {cs : List (List Bool × Bool)} {n : Nat} {Q : List (Str × HD.D) → Nat → Prop} {E : HD.XD} (h : (v.seq = some es ∧ CsOk es cs) ∧ BookOk p cs) (q : Q (bookF p cs) n) : spi_Book_init [.int (p : Int), v] n Q E := ⟨p, v, es, cs, rfl, h.1, h.2, q⟩
theorem frzV : ∀ (xs : List HD.D) (its : List HD.I) (ρ : List HD.S), HD.frz (xs.map HD.I.v ++ its) ρ = HD.frz its ρ
  | [], _, _ => rfl
  | _ :: xs, its, ρ => frzV xs its ρ
theorem valsV (xs : List HD.D) (d : HD.D) : (xs.map HD.I.v ++ [HD.I.v d]).map HD.I.val = xs ++ [d] := by
  rw [List.map_append, List.map_map]
  show xs.map (fun d => d) ++ _ = _
  rw [List.map_id']
  rfl
def spd_Book_len (T : Tx P K mg) (ds : List HD.D) (n : Nat) (Q : HD.I → Nat → Prop) (_ : HD.XD) : Prop := ∃ (p : Nat) (cs : List (List Bool × Bool)), ds = [bookD T p cs] ∧ Q (.v (.int (cs.length : Int))) n
theorem ok_Book_len (T : Tx P K mg) : FnOk P w K mg base CX0 1 T.f_Book_len T.fd_Book_len ["self"] (HD.lift K (spd_Book_len T)) := by
  refine T.F_Book_len.ok sc_Book_len (fun vs H Q E h => ?_) (fun cdv A outer s H vs Q E hr h => ?_)
  · obtain ⟨cx, nn, args, Qd, Ed, hc, hsp⟩ := h
    obtain ⟨p, cs, rfl, q⟩ := hsp
    exact hc.ra.len
  obtain ⟨cx, nn, args, Qd, Ed, hc, hsp⟩ := h
  obtain ⟨p, cs, rfl, q⟩ := hsp
  refine ⟨_, (pss_one (ps_ret (pe_callB (call_lenK (K := K)) (by rfl) T.z_len (by decide +kernel) (pa_cons (HC.pe_fldK (K := K) (pv 0)) pa_nil)))), HD.enter (ρ := [HD.S.v (bookD T p cs : HD.D)]) hc rfl ?_⟩
  clear hc

  fail "dr"
  rw [List.length_map]
  exact q
theorem use_Book_len {T : Tx P K mg} {p : Nat} {cs : List (List Bool × Bool)} {n : Nat} {Q : HD.I → Nat → Prop} {E : HD.XD} (q : Q (.v (.int (cs.length : Int))) n) : spd_Book_len T [bookD T p cs] n Q E := ⟨p, cs, rfl, q⟩
def casesD (cs : List (List Bool × Bool)) : HD.D := .tup (cs.map caseD)
theorem casesD_nob (cs : List (List Bool × Bool)) : HS2.nob 3 (casesD cs) = true := by
  rw [casesD, HS2.nob_tup, List.all_map, List.all_eq_true]
  exact fun c _ => caseD_nob c
/-- the same book again -/
def spd_Book_eq (T : Tx P K mg) (ds : List HD.D) (n : Nat) (Q : HD.I → Nat → Prop) (_ : HD.XD) : Prop := ∃ (p : Nat) (cs : List (List Bool × Bool)), ds = [bookD T p cs, bookD T p cs] ∧ Q (.v (.bl true)) n
theorem ok_Book_eq (T : Tx P K mg) : FnOk P w K mg base CX0 1 T.f_Book_eq T.fd_Book_eq ["self", "other"] (HD.lift K (spd_Book_eq T)) := by
  refine T.F_Book_eq.ok sc_Book_eq (fun vs H Q E h => ?_) (fun cdv A outer s H vs Q E hr h => ?_)
  · obtain ⟨cx, nn, args, Qd, Ed, hc, hsp⟩ := h
    obtain ⟨p, cs, rfl, q⟩ := hsp
    exact hc.ra.len
  obtain ⟨cx, nn, args, Qd, Ed, hc, hsp⟩ := h
  obtain ⟨p, cs, rfl, q⟩ := hsp
  refine ⟨_, (pss_one (ps_ret (pe_and (pe_callB (call_isiK' (K := K)) (by rfl) T.z_isinstance (by decide +kernel) (pa_cons (pv 1) (pa_cons (pe_glob (v := .ref T.C_Book) (by rfl) T.g_Book rfl) pa_nil))) (pe_and (pe_cmpR (op_eqK (K := K) hr.units) (HC.pe_fldK (K := K) (pv 0)) (HC.pe_fldK (K := K) (pv 1)) (nomark _)) (pe_one (pe_cmpR (op_eqK (K := K) hr.units) (HC.pe_fldK (K := K) (pv 0)) (HC.pe_fldK (K := K) (pv 1)) (nomark _))))))), HD.enter (ρ := [HD.S.v (bookD T p cs : HD.D), HD.S.v (bookD T p cs : HD.D)]) hc rfl ?_⟩
  clear hc

  fail "dr"
  refine HS2.eqN_ 3 3 (casesD_nob cs) (casesD_nob cs) (by decide) (by decide) ?_
  rw [show HS2.eqB (HD.I.v (HD.D.tup (cs.map caseD))).val (HD.I.v (HD.D.tup (cs.map caseD))).val = true from HS2.eqB_true rfl]
  fail "dr"
  exact q
theorem use_Book_eq {T : Tx P K mg} {p : Nat} {cs : List (List Bool × Bool)} {n : Nat} {Q : HD.I → Nat → Prop} {E : HD.XD} (q : Q (.v (.bl true)) n) : spd_Book_eq T [bookD T p cs, bookD T p cs] n Q E := ⟨p, cs, rfl, q⟩
def spd_need_book (T : Tx P K mg) (ds : List HD.D) (n : Nat) (Q : HD.I → Nat → Prop) (_ : HD.XD) : Prop := ∃ (p : Nat) (cs : List (List Bool × Bool)) (z : Str), ds = [bookD T p cs, .str z] ∧ Q (.v .non) n
theorem ok_need_book (T : Tx P K mg) : FnOk P w K mg base CX0 3 T.f_need_book T.fd_need_book ["value", "part"] (HD.lift K (spd_need_book T)) := by
  refine T.F_need_book.ok sc_need_book (fun vs H Q E h => ?_) (fun cdv A outer s H vs Q E hr h => ?_)
  · obtain ⟨cx, nn, args, Qd, Ed, hc, hsp⟩ := h
    obtain ⟨p, cs, z, rfl, q⟩ := hsp
    exact hc.ra.len
  obtain ⟨cx, nn, args, Qd, Ed, hc, hsp⟩ := h
  obtain ⟨p, cs, z, rfl, q⟩ := hsp
  refine ⟨_, (pss_one (ps_if (pt_not (pt_val (pe_callB (call_isiK' (K := K)) (by rfl) T.z_isinstance (by decide +kernel) (pa_cons (pv 0) (pa_cons (pe_glob (v := .ref T.C_Book) (by rfl) T.g_Book rfl) pa_nil))))) (pss_one ps_never) pss_nil)), HD.enter (ρ := [HD.S.v (bookD T p cs : HD.D), HD.S.v (.str z : HD.D)]) hc rfl ?_⟩
  clear hc

  fail "dr"
  exact q
theorem use_need_book {T : Tx P K mg} {p : Nat} {cs : List (List Bool × Bool)} {z : Str} {n : Nat} {Q : HD.I → Nat → Prop} {E : HD.XD} (q : Q (.v .non) n) : spd_need_book T [bookD T p cs, .str z] n Q E := ⟨p, cs, z, rfl, q⟩
local macro_rules | `(tactic| fail "du") => `(tactic| (with_reducible refine use_need_book ?_))
def spd_need_places (T : Tx P K mg) (ds : List HD.D) (n : Nat) (Q : HD.I → Nat → Prop) (_ : HD.XD) : Prop := ∃ (p : Nat) (cs : List (List Bool × Bool)) (d : HD.D) (r : List Bool), ds = [bookD T p cs, d] ∧ d.seq = some (r.map bitD) ∧ r.length = p ∧ Q (.v .non) n
theorem ok_need_places (T : Tx P K mg) : FnOk P w K mg base CX0 3 T.f_need_places T.fd_need_places ["book", "row"] (HD.lift K (spd_need_places T)) := by
  refine T.F_need_places.ok sc_need_places (fun vs H Q E h => ?_) (fun cdv A outer s H vs Q E hr h => ?_)
  · obtain ⟨cx, nn, args, Qd, Ed, hc, hsp⟩ := h
    obtain ⟨p, cs, d, r, rfl, h1, h2, q⟩ := hsp
    exact hc.ra.len
  obtain ⟨cx, nn, args, Qd, Ed, hc, hsp⟩ := h
  obtain ⟨p, cs, d, r, rfl, h1, h2, q⟩ := hsp
  refine ⟨_, (pss_one (ps_if (pt_cmpR (op_neK (K := K) hr.units) (pe_callB (call_lenK (K := K)) (by rfl) T.z_len (by decide +kernel) (pa_cons (pv 1) pa_nil)) (HC.pe_fldK (K := K) (pv 0)) (nomark _)) (pss_one ps_never) pss_nil)), HD.enter (ρ := [HD.S.v (bookD T p cs : HD.D), HD.S.v (d : HD.D)]) hc rfl ?_⟩
  clear hc

  fail "dr"
  refine HD.len_ h1 ?_
  rw [List.length_map, h2]
  fail "dr"
  exact q
theorem use_need_places {T : Tx P K mg} {p : Nat} {cs : List (List Bool × Bool)} {d : HD.D} {r : List Bool} {n : Nat} {Q : HD.I → Nat → Prop} {E : HD.XD} (h1 : d.seq = some (r.map bitD)) (h2 : r.length = p) (q : Q (.v .non) n) : spd_need_places T [bookD T p cs, d] n Q E := ⟨p, cs, d, r, rfl, h1, h2, q⟩
def spd_need_row_of (T : Tx P K mg) (ds : List HD.D) (n : Nat) (Q : HD.I → Nat → Prop) (_ : HD.XD) : Prop := ∃ (p : Nat) (cs : List (List Bool × Bool)) (d : HD.D) (r : List Bool), ds = [bookD T p cs, d] ∧ (d.seq = some (r.map bitD) ∧ r.length = p ∧ p ≤ 6) ∧ Q (.v .non) n
theorem ok_need_row_of (T : Tx P K mg) : FnOk P w K mg base CX0 4 T.f_need_row_of T.fd_need_row_of ["book", "row"] (HD.lift K (spd_need_row_of T)) := by
  refine T.F_need_row_of.ok sc_need_row_of (fun vs H Q E h => ?_) (fun cdv A outer s H vs Q E hr h => ?_)
  · obtain ⟨cx, nn, args, Qd, Ed, hc, hsp⟩ := h
    obtain ⟨p, cs, d, r, rfl, ⟨h1, h2, h3⟩, q⟩ := hsp
    exact hc.ra.len
  obtain ⟨cx, nn, args, Qd, Ed, hc, hsp⟩ := h
  obtain ⟨p, cs, d, r, rfl, ⟨h1, h2, h3⟩, q⟩ := hsp
  refine ⟨_, (pss_cons (ps_expr (pe_call (ok_need_book T) (hr.mono (by decide)) (by rfl) T.g_need_book T.F_need_book.kp T.b_need_book .nil pass0 (pa_cons (pv 0) (pa_cons pe_str pa_nil))))
      (pss_cons (ps_if (pt_not (pt_val (pe_call (ok_are_bits T) (hr.mono (by decide)) (by rfl) T.g_are_bits T.F_are_bits.kp T.b_are_bits .nil pass0 (pa_cons (pv 1) pa_nil)))) (pss_one ps_never) pss_nil)
      (pss_one (ps_expr (pe_call (ok_need_places T) (hr.mono (by decide)) (by rfl) T.g_need_places T.F_need_places.kp T.b_need_places .nil pass0 (pa_cons (pv 0) (pa_cons (pv 1) pa_nil))))))), HD.enter (ρ := [HD.S.v (bookD T p cs : HD.D), HD.S.v (d : HD.D)]) hc rfl ?_⟩
  clear hc

  fail "dr"
  refine use_are_bits ⟨h1, by omega⟩ ?_
  fail "dr"
  refine use_need_places h1 h2 ?_
  fail "dr"
  exact q
theorem use_need_row_of {T : Tx P K mg} {p : Nat} {cs : List (List Bool × Bool)} {d : HD.D} {r : List Bool} {n : Nat} {Q : HD.I → Nat → Prop} {E : HD.XD} (h : d.seq = some (r.map bitD) ∧ r.length = p ∧ p ≤ 6) (q : Q (.v .non) n) : spd_need_row_of T [bookD T p cs, d] n Q E := ⟨p, cs, d, r, rfl, h, q⟩
/-- a book with a case more -/
def spd_Book_with_case (T : Tx P K mg) (ds : List HD.D) (n : Nat) (Q : HD.I → Nat → Prop) (_ : HD.XD) : Prop := ∃ (p : Nat) (cs : List (List Bool × Bool)) (d : HD.D) (r : List Bool) (o : Bool), ds = [bookD T p cs, d, bitD o] ∧ (d.seq = some (r.map bitD) ∧ BookOk p (cs ++ [(r, o)])) ∧ Q (.o (bookD T p (cs ++ [(r, o)]))) n
theorem caseR_any {d : HD.D} {r : List Bool} {o : Bool} (h : d.seq = some (r.map bitD)) : CaseR (.tup [d, bitD o]) (r, o) := ⟨d, rfl, h⟩
theorem ok_Book_with_case (T : Tx P K mg) : FnOk P w K mg base CX0 7 T.f_Book_with_case T.fd_Book_with_case ["self", "row", "outcome"] (HD.lift K (spd_Book_with_case T)) := by
  refine T.F_Book_with_case.ok sc_Book_with_case (fun vs H Q E h => ?_) (fun cdv A outer s H vs Q E hr h => ?_)
  · obtain ⟨cx, nn, args, Qd, Ed, hc, hsp⟩ := h
    obtain ⟨p, cs, d, r, o, rfl, ⟨h1, hb⟩, q⟩ := hsp
    exact hc.ra.len
  obtain ⟨cx, nn, args, Qd, Ed, hc, hsp⟩ := h
  obtain ⟨p, cs, d, r, o, rfl, ⟨h1, hb⟩, q⟩ := hsp
  refine ⟨_, (pss_cons (ps_if (pt_not (pt_val (pe_call (ok_are_bits T) (hr.mono (by decide)) (by rfl) T.g_are_bits T.F_are_bits.kp T.b_are_bits .nil pass0 (pa_cons (pv 1) pa_nil)))) (pss_one ps_never) pss_nil)
      (pss_cons (ps_if (pt_not (pt_val (pe_call (ok_is_within T) (hr.mono (by decide)) (by rfl) T.g_is_within T.F_is_within.kp T.b_is_within .nil pass0 (pa_cons (pv 2) (pa_cons pe_int (pa_cons pe_int pa_nil)))))) (pss_one ps_never) pss_nil)
      (pss_cons (ps_expr (pe_call (ok_need_places T) (hr.mono (by decide)) (by rfl) T.g_need_places T.F_need_places.kp T.b_need_places .nil pass0 (pa_cons (pv 0) (pa_cons (pv 1) pa_nil))))
      (pss_one (ps_ret (StX.pe_makeR T.mk_Book (ok_Book_init T) (hr.mono (by decide)) (by rfl) T.g_Book pass0 (pa_cons (HC.pe_fldK (K := K) (pv 0)) (pa_cons (pe_lst (HY.pa_starK (K := K) (HC.pe_fldK (K := K) (pv 0)) (pa_cons (pe_tup (pa_cons (pv 1) (pa_cons (pv 2) pa_nil))) pa_nil))) pa_nil)))))))), HD.enter (ρ := [HD.S.v (bookD T p cs : HD.D), HD.S.v (d : HD.D), HD.S.v (bitD o : HD.D)]) hc rfl ?_⟩
  clear hc

  have hrl : r.length = p := hb.len (r, o) (List.mem_append_right _ (List.mem_cons_self ..))
  have hp6 := hb.p6
  have hfw := hb.few
  rw [List.length_append] at hfw
  fail "dr"
  refine use_are_bits ⟨h1, by omega⟩ ?_
  fail "dr"
  refine use_is_within (bi_bd o) ?_
  fail "dr"
  refine use_need_places h1 hrl ?_
  fail "dr"
  refine ⟨Nat.ble_eq_true_of_le (by rw [List.length_append, List.length_map, List.length_map]; simp at hfw ⊢; omega), ?_⟩
  rw [frzV, valsV]
  fail "dr"
  refine use_Book_init (es := cs.map caseD ++ [.tup [d, bitD o]]) (cs := cs ++ [(r, o)]) ⟨⟨rfl, (csOk cs).append (.cons (caseR_any h1) .nil)⟩, hb⟩ ?_
  fail "dr"
  exact q
theorem use_Book_with_case {T : Tx P K mg} {p : Nat} {cs : List (List Bool × Bool)} {d : HD.D} {r : List Bool} {o : Bool} {n : Nat} {Q : HD.I → Nat → Prop} {E : HD.XD} (h : d.seq = some (r.map bitD) ∧ BookOk p (cs ++ [(r, o)])) (q : Q (.o (bookD T p (cs ++ [(r, o)]))) n) : spd_Book_with_case T [bookD T p cs, d, bitD o] n Q E := ⟨p, cs, d, r, o, rfl, h, q⟩

/-- the vector of a row -/
def vec : List Bool → Nat
  | [] => 1
  | b :: r => b.toNat + 2 * vec r
theorem vec_pos : ∀ r : List Bool, 0 < vec r
  | [] => by decide
  | b :: r => by rw [vec]; have := vec_pos r; omega
theorem vec_lt : ∀ r : List Bool, vec r < 2 ^ (r.length + 1)
  | [] => by decide
  | b :: r => by
    have := vec_lt r
    rw [vec, List.length_cons, Nat.pow_succ]
    cases b <;> simp <;> omega
def shF : Nat → List Bool → List Int
  | _, [] => []
  | i, b :: r => ((b.toNat * 2 ^ i : Nat) : Int) :: shF (i + 1) r
theorem shF_len : ∀ (i : Nat) (r : List Bool), (shF i r).length = r.length
  | _, [] => rfl
  | i, _ :: r => by rw [shF, List.length_cons, List.length_cons, shF_len]
theorem shF_sum : ∀ (i : Nat) (r : List Bool), (shF i r).sum + ((2 ^ (i + r.length) : Nat) : Int) = ((2 ^ i * vec r : Nat) : Int)
  | i, [] => by rw [shF, vec, List.sum_nil, List.length_nil, Nat.add_zero, Nat.mul_one, Int.zero_add]
  | i, b :: r => by
    have h := shF_sum (i + 1) r
    rw [shF, vec, List.sum_cons, List.length_cons, show i + (r.length + 1) = i + 1 + r.length by omega, Int.add_assoc, h, Nat.pow_succ, Nat.mul_add]
    have e : 2 ^ i * 2 * vec r = 2 ^ i * (2 * vec r) := Nat.mul_assoc _ _ _
    rw [e, Nat.mul_comm (2 ^ i) b.toNat]
    rfl
def shD : HD.D → HD.D
  | .tup [.int i, .int b] => .int (b * 2 ^ i.toNat)
  | _ => .non
theorem sh_enum : ∀ (i : Nat) (r : List Bool), (HW.enumF i (r.map bitD)).map shD = (shF i r).map HD.D.int
  | _, [] => rfl
  | i, b :: r => by
    rw [List.map_cons, HW.enumF, List.map_cons, shF, List.map_cons, sh_enum (i + 1) r]
    congr 1
def spd_vector_of (ds : List HD.D) (n : Nat) (Q : HD.I → Nat → Prop) (_ : HD.XD) : Prop := ∃ (d : HD.D) (r : List Bool), ds = [d] ∧ (d.seq = some (r.map bitD) ∧ r.length ≤ 6) ∧ Q (.v (.int (vec r : Int))) n
theorem use_vector_of {d : HD.D} {r : List Bool} {n : Nat} {Q : HD.I → Nat → Prop} {E : HD.XD} (h : d.seq = some (r.map bitD) ∧ r.length ≤ 6) (q : Q (.v (.int (vec r : Int))) n) : spd_vector_of [d] n Q E := ⟨d, r, rfl, h, q⟩
theorem ok_vector_of (T : Tx P K mg) : FnOk P w K mg base CX0 1 T.f_vector_of T.fd_vector_of ["row"] (HD.lift K spd_vector_of) := by
  refine T.F_vector_of.ok sc_vector_of (fun vs H Q E h => ?_) (fun cdv A outer s H vs Q E hr h => ?_)
  · obtain ⟨cx, nn, args, Qd, Ed, hc, hsp⟩ := h
    obtain ⟨d, r, rfl, h, q⟩ := hsp
    exact hc.ra.len
  obtain ⟨cx, nn, args, Qd, Ed, hc, hsp⟩ := h
  obtain ⟨d, r, rfl, h, q⟩ := hsp
  refine ⟨_, (pss_one (ps_ret (pe_op (op_addK (K := K)) (pe_callB (cr_sumK (K := K) (by rfl)) (by rfl) T.z_sum (by decide +kernel) (pa_cons (pe_lc (own := [("place", 1), ("bit", 2)]) (tt := tYes) (by rfl) sc_vector_of.nd (HW.pi_enK (K := K) (by rfl) T.z_enumerate (pa_cons (pv 0) pa_nil)) (blkOk_by (own := [("place", 1), ("bit", 2)]) (N := n_vector_of) (sc := defScope s_vector_of) (by decide +kernel)) (fun _ _ _ _ _ => (pg_tupK (K := K) 2 (by rfl) (pgs_cons (pg_name (i := 1) sc_vector_of.nd rfl (by first | exact .inl rfl | exact .inr rfl)) (pgs_cons (pg_name (i := 2) sc_vector_of.nd rfl (by first | exact .inl rfl | exact .inr rfl)) pgs_nil)))) (fun _ _ _ _ _ => pts_nil) (fun _ _ _ _ _ => (pe_op op_shl (pv 2) (pv 1)))) pa_nil)) (pe_op op_shl pe_int (pe_callB (call_lenK (K := K)) (by rfl) T.z_len (by decide +kernel) (pa_cons (pv 0) pa_nil)))))), HD.enter (ρ := [HD.S.v (d : HD.D), HD.S.un, HD.S.un]) hc rfl ?_⟩
  clear hc

  obtain ⟨h1, h2⟩ := h
  fail "dr"
  refine HW.exen_ h1 ?_
  fail "dr"
  refine HD.CpD.mapD shD (by rw [HW.enumD_len, List.length_map]; omega) (fun x hx ys => ?_) ?_
  · obtain ⟨j, hj⟩ := List.getElem?_of_mem hx
    obtain ⟨z, hz, rfl⟩ := HW.enumD_at hj
    have hjl := (List.getElem?_eq_some_iff.mp hz).1
    rw [List.length_map] at hjl
    obtain ⟨b, _, rfl⟩ := List.mem_map.mp (List.mem_of_getElem? hz)
    fail "dr"
    refine HBt.shl_ (a := b.toNat) (b := j) (by cases b <;> decide) (by omega) ?_
    fail "dr"
    refine ⟨?_, rfl, rfl⟩
    show HD.D.int _ = HD.D.int (bi b * 2 ^ (j : Int).toNat)
    rw [Int.toNat_natCast, bi]
    push_cast
    rfl
  · rw [show (HW.enumD (r.map bitD)).map shD = (shF 0 r).map HD.D.int from sh_enum 0 r]
    fail "dr"
    refine HD.sum_ (ns := shF 0 r) rfl ?_
    fail "dr"
    refine HD.len_ h1 ?_
    rw [List.length_map]
    refine HBt.shl1_ (by omega) ?_
    fail "dr"
    have e := shF_sum 0 r
    rw [Nat.zero_add, Nat.pow_zero, Nat.one_mul] at e
    rw [e]
    exact q
local macro_rules | `(tactic| fail "du") => `(tactic| ((with_reducible refine' use_vector_of ?h ?_); (case h => exact ⟨by assumption, by assumption⟩)))
def spd_numbers_in (ds : List HD.D) (n : Nat) (Q : HD.I → Nat → Prop) (_ : HD.XD) : Prop := ∃ (x : Nat), ds = [.int (x : Int)] ∧ (x < 2 ^ 64) ∧ Q (.o (.lst (HBt.natsD (HBt.nums x)))) n
theorem use_numbers_in {x : Nat} {n : Nat} {Q : HD.I → Nat → Prop} {E : HD.XD} (h : x < 2 ^ 64) (q : Q (.o (.lst (HBt.natsD (HBt.nums x)))) n) : spd_numbers_in [.int (x : Int)] n Q E := ⟨x, rfl, h, q⟩
theorem ok_numbers_in (T : Tx P K mg) : FnOk P w K mg base CX0 1 T.f_numbers_in T.fd_numbers_in ["lot"] (HD.lift K spd_numbers_in) := by
  refine T.F_numbers_in.ok sc_numbers_in (fun vs H Q E h => ?_) (fun cdv A outer s H vs Q E hr h => ?_)
  · obtain ⟨cx, nn, args, Qd, Ed, hc, hsp⟩ := h
    obtain ⟨x, rfl, h, q⟩ := hsp
    exact hc.ra.len
  obtain ⟨cx, nn, args, Qd, Ed, hc, hsp⟩ := h
  obtain ⟨x, rfl, h, q⟩ := hsp
  refine ⟨_, (pss_one (ps_ret (pe_lc (own := [("number", 1)]) (g := gName 1) (by rfl) sc_numbers_in.nd (pi_range1 (by rfl) T.z_range (pa_cons (pe_bits (pv 0)) pa_nil)) (blkOk_by (own := [("number", 1)]) (N := n_numbers_in) (sc := defScope s_numbers_in) (by decide +kernel)) (fun _ _ _ _ _ => (pg_name (i := 1) sc_numbers_in.nd rfl (by first | exact .inl rfl | exact .inr rfl))) (fun _ _ _ _ _ => (pts_one (pt_cmpR (op_eqK (K := K) hr.units) (pe_op op_and (pe_op op_shr (pv 0) (pv 1)) pe_int) pe_int (nomark _)))) (fun _ _ _ _ _ => (pv 1))))), HD.enter (ρ := [HD.S.v (.int (x : Int) : HD.D), HD.S.un]) hc rfl ?_⟩
  clear hc

  have hb : Builtin.Int.intBits (x : Int) ≤ 64 := PyProof.Rows.intBits_le (by rw [Int.natAbs_natCast]; exact h)
  fail "dr"
  rw [HBt.rngN_eq]
  refine HD.CpD.filD (xs := HBt.rngN (Builtin.Int.intBits (x : Int))) (fun d => match d with | .int i => x.testBit i.toNat | _ => false) id (by rw [HBt.rngN_len]; omega) (fun y hy ys => ?_) ?_
  · obtain ⟨i, hi, rfl⟩ := HBt.rngN_mem hy
    fail "dr"
    rw [HBt.testBit_div]
    fail "dr"
    refine ⟨by rw [Int.toNat_natCast], ?_⟩
    split
    · fail "dr"
      exact ⟨rfl, rfl, rfl⟩
    · exact ⟨rfl, rfl⟩
  · rw [List.map_id, HBt.rngN, HBt.filter_map_int (p := fun i => x.testBit i) (fun i => by show x.testBit (i : Int).toNat = _; rw [Int.toNat_natCast]), HBt.nums_bits h]
    fail "dr"
    exact q
local macro_rules | `(tactic| fail "du") => `(tactic| ((with_reducible refine' use_numbers_in ?h ?_); (case h => assumption)))
@[reducible] def qD (q : HGf.Q4) : HD.D := .tup [.int (q.h : Int), .int (q.v : Int), .int (q.l : Int), .int (q.o : Int)]
@[reducible] def tripD (r : Nat × Nat × Nat) : HD.D := .tup [.int (r.1 : Int), .int (r.2.1 : Int), .int (r.2.2 : Int)]
theorem red_drop {b : List HGf.Q4} {i : Nat} {q : HGf.Q4} (h : b[i]? = some q) (v t o : Nat) : HGf.red (b.drop i) v t o = if v &&& q.h = 0 then HGf.red (b.drop (i + 1)) v t o else HGf.red (b.drop (i + 1)) (v ^^^ q.v) (t ^^^ q.l) (o ^^^ q.o) := by
  obtain ⟨hl, e⟩ := List.getElem?_eq_some_iff.mp h
  rw [List.drop_eq_getElem_cons hl, e, HGf.red]
def spd_reduced (ds : List HD.D) (n : Nat) (Q : HD.I → Nat → Prop) (_ : HD.XD) : Prop := ∃ (b : List HGf.Q4) (v : Nat), ds = [.lst (b.map qD), .int (v : Int)] ∧ (True) ∧ Q (.v (tripD (HGf.red b v 0 0))) n
theorem use_reduced {b : List HGf.Q4} {v : Nat} {n : Nat} {Q : HD.I → Nat → Prop} {E : HD.XD} (h : True) (q : Q (.v (tripD (HGf.red b v 0 0))) n) : spd_reduced [.lst (b.map qD), .int (v : Int)] n Q E := ⟨b, v, rfl, h, q⟩
theorem ok_reduced (T : Tx P K mg) : FnOk P w K mg base CX0 1 T.f_reduced T.fd_reduced ["base", "vector"] (HD.lift K spd_reduced) := by
  refine T.F_reduced.ok sc_reduced (fun vs H Q E h => ?_) (fun cdv A outer s H vs Q E hr h => ?_)
  · obtain ⟨cx, nn, args, Qd, Ed, hc, hsp⟩ := h
    obtain ⟨b, v, rfl, h, q⟩ := hsp
    exact hc.ra.len
  obtain ⟨cx, nn, args, Qd, Ed, hc, hsp⟩ := h
  obtain ⟨b, v, rfl, h, q⟩ := hsp
  refine ⟨_, (pss_cons (ps_asg (pe_tup (pa_cons pe_int (pa_cons pe_int pa_nil))) (pg_tupK (K := K) 2 (by rfl) (pgs_cons (pg_name (i := 2) sc_reduced.nd rfl (by first | exact .inl rfl | exact .inr rfl)) (pgs_cons (pg_name (i := 3) sc_reduced.nd rfl (by first | exact .inl rfl | exact .inr rfl)) pgs_nil))))
      (pss_cons (ps_for PassesOwn.never (by rfl) (pi_listK (K := K) (pv 0)) (pg_tupK (K := K) 4 (by rfl) (pgs_cons (pg_name (i := 4) sc_reduced.nd rfl (by first | exact .inl rfl | exact .inr rfl)) (pgs_cons (pg_name (i := 5) sc_reduced.nd rfl (by first | exact .inl rfl | exact .inr rfl)) (pgs_cons (pg_name (i := 6) sc_reduced.nd rfl (by first | exact .inl rfl | exact .inr rfl)) (pgs_cons (pg_name (i := 7) sc_reduced.nd rfl (by first | exact .inl rfl | exact .inr rfl)) pgs_nil))))) (pss_one (ps_if (pt_cmpR (op_neK (K := K) hr.units) (pe_op op_and (pv 1) (pv 4)) pe_int (nomark _)) (pss_one (ps_par3 (i := 1) (j := 2) (l := 3) (by rfl) sc_reduced.nd rfl rfl rfl (by decide) (by decide) (by decide) rfl rfl rfl (pa_cons (pe_op op_xor (pv 1) (pv 5)) (pa_cons (pe_op op_xor (pv 2) (pv 6)) (pa_cons (pe_op op_xor (pv 3) (pv 7)) pa_nil))) (by rfl))) pss_nil)))
      (pss_one (ps_ret (pe_tup (pa_cons (pv 1) (pa_cons (pv 2) (pa_cons (pv 3) pa_nil)))))))), HD.enter (ρ := [HD.S.v (.lst (b.map qD) : HD.D), HD.S.v (.int (v : Int) : HD.D), HD.S.un, HD.S.un, HD.S.un, HD.S.un, HD.S.un, HD.S.un]) hc rfl ?_⟩
  clear hc

  fail "dr"
  refine HD.ForD.inv (fun i ρ m => m = nn ∧ ∃ (v' t' o' : Nat) (x4 x5 x6 x7 : HD.S), ρ = [.v (.lst (b.map qD)), .v (.int (v' : Int)), .v (.int (t' : Int)), .v (.int (o' : Int)), x4, x5, x6, x7] ∧ HGf.red (b.drop i) v' t' o' = HGf.red b v 0 0) ⟨rfl, v, 0, 0, _, _, _, _, rfl, rfl⟩ (fun i x ρ m hx hi hp => ?_) (fun ρ m hp => ?_)
  · obtain ⟨rfl, v', t', o', x4, x5, x6, x7, rfl, e⟩ := hp
    obtain ⟨q0, hq, rfl⟩ : ∃ q0, b[i]? = some q0 ∧ x = qD q0 := by
      rw [List.getElem?_map] at hx
      cases hb : b[i]? with
      | none => rw [hb] at hx; cases hx
      | some q0 => rw [hb] at hx; exact ⟨q0, rfl, (Option.some.inj hx).symm⟩
    rw [red_drop hq] at e
    refine HD.gtup_ (xs := [.int (q0.h : Int), .int (q0.v : Int), .int (q0.l : Int), .int (q0.o : Int)]) rfl ?_
    fail "dr"
    refine HX.itend_ (fun h => ?_) (fun h => ?_)
    · rw [if_neg (fun z => h (by rw [z]; rfl))] at e
      fail "dr"
      exact ⟨rfl, _, _, _, _, _, _, _, rfl, e⟩
    · rw [if_pos (by exact_mod_cast h)] at e
      fail "dr"
      exact ⟨rfl, _, _, _, _, _, _, _, rfl, e⟩
  · obtain ⟨rfl, v', t', o', x4, x5, x6, x7, rfl, e⟩ := hp
    rw [List.length_map, List.drop_length, HGf.red] at e
    fail "dr"
    rw [← e] at q
    exact q
local macro_rules | `(tactic| fail "du") => `(tactic| ((with_reducible refine' use_reduced ?h ?_); (case h => trivial)))
def newQ (x l o : Nat) : HGf.Q4 := ⟨HBt.lowb x, x, l, o⟩
def spd_wider (ds : List HD.D) (n : Nat) (Q : HD.I → Nat → Prop) (_ : HD.XD) : Prop := ∃ (b : List HGf.Q4) (x l o : Nat), ds = [.lst (b.map qD), .int (x : Int), .int (l : Int), .int (o : Int)] ∧ (0 < x ∧ b.length ≤ 100) ∧ Q (.o (.lst ((b ++ [newQ x l o]).map qD))) n
theorem use_wider {b : List HGf.Q4} {x l o : Nat} {n : Nat} {Q : HD.I → Nat → Prop} {E : HD.XD} (h : 0 < x ∧ b.length ≤ 100) (q : Q (.o (.lst ((b ++ [newQ x l o]).map qD))) n) : spd_wider [.lst (b.map qD), .int (x : Int), .int (l : Int), .int (o : Int)] n Q E := ⟨b, x, l, o, rfl, h, q⟩
theorem ok_wider (T : Tx P K mg) : FnOk P w K mg base CX0 1 T.f_wider T.fd_wider ["base", "left", "lot", "outcome"] (HD.lift K spd_wider) := by
  refine T.F_wider.ok sc_wider (fun vs H Q E h => ?_) (fun cdv A outer s H vs Q E hr h => ?_)
  · obtain ⟨cx, nn, args, Qd, Ed, hc, hsp⟩ := h
    obtain ⟨b, x, l, o, rfl, h, q⟩ := hsp
    exact hc.ra.len
  obtain ⟨cx, nn, args, Qd, Ed, hc, hsp⟩ := h
  obtain ⟨b, x, l, o, rfl, h, q⟩ := hsp
  refine ⟨_, (pss_one (ps_ret (pe_lst (HY.pa_starK (K := K) (pv 0) (pa_cons (pe_tup (pa_cons (pe_op op_and (pv 1) (pe_un un_neg (pv 1))) (pa_cons (pv 1) (pa_cons (pv 2) (pa_cons (pv 3) pa_nil))))) pa_nil))))), HD.enter (ρ := [HD.S.v (.lst (b.map qD) : HD.D), HD.S.v (.int (x : Int) : HD.D), HD.S.v (.int (l : Int) : HD.D), HD.S.v (.int (o : Int) : HD.D)]) hc rfl ?_⟩
  clear hc

  obtain ⟨h1, h2⟩ := h
  obtain ⟨_, _, e, _⟩ := HBt.lowb_spec h1
  fail "dr"
  rw [e]
  have e : ((b.map qD).map HD.I.v ++ [HD.I.v (.tup [.int (HBt.lowb x : Int), .int (x : Int), .int (l : Int), .int (o : Int)])]).map HD.I.val = (b ++ [newQ x l o]).map qD := by
    simp [HD.I.val, Function.comp_def, qD, newQ]
  rw [e]
  exact ⟨Nat.ble_eq_true_of_le (by simp; omega), q⟩
local macro_rules | `(tactic| fail "du") => `(tactic| ((with_reducible refine' use_wider ?h ?_); (case h => exact ⟨by omega, by assumption⟩)))
/-- the base of cases, and the first quarrel -/
def baseF : Nat → List (Nat × Nat) → List HGf.Q4 → List HGf.Q4 × Option Nat
  | _, [], b => (b, none)
  | n, (v, o) :: cs, b => if (HGf.red b v 0 0).1 = 0 then (if (HGf.red b v 0 0).2.2 = o then baseF (n + 1) cs b else (b, some ((HGf.red b v 0 0).2.1 ^^^ 2 ^ n)))
    else baseF (n + 1) cs (b ++ [newQ (HGf.red b v 0 0).1 ((HGf.red b v 0 0).2.1 ^^^ 2 ^ n) ((HGf.red b v 0 0).2.2 ^^^ o)])
/-- the vectors and outcomes of cases -/
def vcs (cs : List (List Bool × Bool)) : List (Nat × Nat) := cs.map fun c => (vec c.1, c.2.toNat)
def endD : Option Nat → HD.D
  | none => .non
  | some x => .lst (HBt.natsD (HBt.nums x))
/-- all lots are of the first numbers -/
def LotLt (n : Nat) (b : List HGf.Q4) : Prop := b.length ≤ n ∧ ∀ q ∈ b, q.l < 2 ^ n
theorem LotLt.mono {n m : Nat} {b : List HGf.Q4} (h : LotLt n b) (e : n ≤ m) : LotLt m b := ⟨Nat.le_trans h.1 e, fun q hq => Nat.lt_of_lt_of_le (h.2 q hq) (Nat.pow_le_pow_right (by decide) e)⟩
theorem red_lot {n : Nat} : ∀ {b : List HGf.Q4} {v t o : Nat}, (∀ q ∈ b, q.l < 2 ^ n) → t < 2 ^ n → (HGf.red b v t o).2.1 < 2 ^ n
  | [], _, _, _, _, h => h
  | q :: b, v, t, o, hb, h => by
    rw [HGf.red]
    split
    · exact red_lot (fun p hp => hb p (List.mem_cons_of_mem _ hp)) h
    · exact red_lot (fun p hp => hb p (List.mem_cons_of_mem _ hp)) (Nat.xor_lt_two_pow h (hb q (List.mem_cons_self ..)))
theorem LotLt.red {n : Nat} {b : List HGf.Q4} (h : LotLt n b) (v : Nat) : (HGf.red b v 0 0).2.1 ^^^ 2 ^ n < 2 ^ (n + 1) :=
  Nat.xor_lt_two_pow (Nat.lt_of_lt_of_le (red_lot h.2 (Nat.two_pow_pos n)) (Nat.pow_le_pow_right (by decide) (Nat.le_succ n))) (Nat.pow_lt_pow_right (by decide) (Nat.lt_succ_self n))
theorem LotLt.new {n : Nat} {b : List HGf.Q4} (h : LotLt n b) (v x o : Nat) : LotLt (n + 1) (b ++ [newQ x ((HGf.red b v 0 0).2.1 ^^^ 2 ^ n) o]) := by
  refine ⟨by rw [List.length_append]; have := h.1; simp; omega, fun q hq => ?_⟩
  rcases List.mem_append.mp hq with hq | hq
  · exact Nat.lt_of_lt_of_le (h.2 q hq) (Nat.pow_le_pow_right (by decide) (Nat.le_succ n))
  · rw [List.mem_singleton.mp hq]; exact h.red v
def spd_base_of (T : Tx P K mg) (ds : List HD.D) (n : Nat) (Q : HD.I → Nat → Prop) (_ : HD.XD) : Prop := ∃ (p : Nat) (cs : List (List Bool × Bool)), ds = [bookD T p cs] ∧ BookOk p cs ∧ Q (.v (.tup [.lst ((baseF 0 (vcs cs) []).1.map qD), endD (baseF 0 (vcs cs) []).2])) n
theorem ok_base_of (T : Tx P K mg) : FnOk P w K mg base CX0 2 T.f_base_of T.fd_base_of ["book"] (HD.lift K (spd_base_of T)) := by
  refine T.F_base_of.ok sc_base_of (fun vs H Q E h => ?_) (fun cdv A outer s H vs Q E hr h => ?_)
  · obtain ⟨cx, nn, args, Qd, Ed, hc, hsp⟩ := h
    obtain ⟨p, cs, rfl, hb, q⟩ := hsp
    exact hc.ra.len
  obtain ⟨cx, nn, args, Qd, Ed, hc, hsp⟩ := h
  obtain ⟨p, cs, rfl, hb, q⟩ := hsp
  refine ⟨_, (pss_cons (ps_set (i := 1) sc_base_of.nd rfl (by first | exact .inl rfl | exact .inr rfl) (pe_lst pa_nil))
      (pss_cons (ps_for PassesOwn.never (by rfl) (HW.pi_enK (K := K) (by rfl) T.z_enumerate (pa_cons (HC.pe_fldK (K := K) (pv 0)) pa_nil)) (pg_tupK (K := K) 2 (by rfl) (pgs_cons (pg_name (i := 2) sc_base_of.nd rfl (by first | exact .inl rfl | exact .inr rfl)) (pgs_cons (pg_tupK (K := K) 2 (by rfl) (pgs_cons (pg_name (i := 3) sc_base_of.nd rfl (by first | exact .inl rfl | exact .inr rfl)) (pgs_cons (pg_name (i := 4) sc_base_of.nd rfl (by first | exact .inl rfl | exact .inr rfl)) pgs_nil))) pgs_nil))) (pss_cons (ps_asg (pe_call (ok_reduced T) (hr.mono (by decide)) (by rfl) T.g_reduced T.F_reduced.kp T.b_reduced .nil pass0 (pa_cons (pv 1) (pa_cons (pe_call (ok_vector_of T) (hr.mono (by decide)) (by rfl) T.g_vector_of T.F_vector_of.kp T.b_vector_of .nil pass0 (pa_cons (pv 3) pa_nil)) pa_nil))) (pg_tupK (K := K) 3 (by rfl) (pgs_cons (pg_name (i := 5) sc_base_of.nd rfl (by first | exact .inl rfl | exact .inr rfl)) (pgs_cons (pg_name (i := 6) sc_base_of.nd rfl (by first | exact .inl rfl | exact .inr rfl)) (pgs_cons (pg_name (i := 7) sc_base_of.nd rfl (by first | exact .inl rfl | exact .inr rfl)) pgs_nil)))))
      (pss_one (ps_if (pt_cmpR (op_neK (K := K) hr.units) (pv 5) pe_int (nomark _)) (pss_one (ps_set (i := 1) sc_base_of.nd rfl (by first | exact .inl rfl | exact .inr rfl) (pe_call (ok_wider T) (hr.mono (by decide)) (by rfl) T.g_wider T.F_wider.kp T.b_wider .nil pass0 (pa_cons (pv 1) (pa_cons (pv 5) (pa_cons (pe_op op_xor (pv 6) (pe_op op_shl pe_int (pv 2))) (pa_cons (pe_op op_xor (pv 7) (pv 4)) pa_nil))))))) (pss_one (ps_if (pt_cmpR (op_neK (K := K) hr.units) (pv 7) (pv 4) (nomark _)) (pss_one (ps_ret (pe_tup (pa_cons (pv 1) (pa_cons (pe_call (ok_numbers_in T) (hr.mono (by decide)) (by rfl) T.g_numbers_in T.F_numbers_in.kp T.b_numbers_in .nil pass0 (pa_cons (pe_op op_xor (pv 6) (pe_op op_shl pe_int (pv 2))) pa_nil)) pa_nil))))) pss_nil))))))
      (pss_one (ps_ret (pe_tup (pa_cons (pv 1) (pa_cons pe_non pa_nil))))))), HD.enter (ρ := [HD.S.v (bookD T p cs : HD.D), HD.S.un, HD.S.un, HD.S.un, HD.S.un, HD.S.un, HD.S.un, HD.S.un]) hc rfl ?_⟩
  clear hc

  have hf := hb.few
  have hp6 := hb.p6
  fail "dr"
  refine HD.ForD.inv (fun i ρ m => m = nn ∧ ∃ (b : List HGf.Q4) (y : HD.S) (x2 x3 x4 x5 x6 x7 : HD.S), (y = .v (.lst (b.map qD)) ∨ y = .ow (.lst (b.map qD))) ∧ ρ = [.v (bookD T p cs), y, x2, x3, x4, x5, x6, x7] ∧ baseF i (vcs (cs.drop i)) b = baseF 0 (vcs cs) [] ∧ LotLt i b) ⟨rfl, [], _, _, _, _, _, _, _, .inr rfl, rfl, rfl, Nat.le_refl _, fun q hq => by cases hq⟩ (fun i x ρ m hx hi hp => ?_) (fun ρ m hp => ?_)
  · obtain ⟨rfl, b, y, x2, x3, x4, x5, x6, x7, hy, rfl, e, hl⟩ := hp
    obtain ⟨z, hz, rfl⟩ := HW.enumD_at hx
    rw [List.getElem?_map] at hz
    obtain ⟨cc, hc, rfl⟩ : ∃ cc, cs[i]? = some cc ∧ z = caseD cc := by
      cases h : cs[i]? with
      | none => rw [h] at hz; cases hz
      | some cc => rw [h] at hz; exact ⟨cc, rfl, (Option.some.inj hz).symm⟩
    have hcl := hb.len cc (List.mem_of_getElem? hc)
    obtain ⟨hlt, ec⟩ := List.getElem?_eq_some_iff.mp hc
    rw [List.drop_eq_getElem_cons hlt, ec, vcs, List.map_cons, baseF] at e
    have hll := hl.1
    rcases hy with rfl | rfl
    all_goals
      fail "dr"
      refine use_vector_of (d := rowD cc.1) (r := cc.1) ⟨rfl, by omega⟩ ?_
      fail "dr"
      refine HX.itend_ (fun h => ?_) (fun h => ?_)
      · have h' : ¬ (HGf.red b (vec cc.1) 0 0).1 = 0 := fun z => h (by show ((HGf.red b (vec cc.1) 0 0).1 : Int) = 0; rw [z]; rfl)
        rw [if_neg h'] at e
        fail "dr"
        refine use_wider ⟨Nat.pos_of_ne_zero h', by omega⟩ ?_
        fail "dr"
        exact ⟨rfl, _, _, _, _, _, _, _, _, .inr rfl, rfl, e, hl.new _ _ _⟩
      · have h' : (HGf.red b (vec cc.1) 0 0).1 = 0 := by exact_mod_cast h
        rw [if_pos h'] at e
        fail "dr"
        refine HX.itend_ (fun h2 => ?_) (fun h2 => ?_)
        · have h2' : ¬ (HGf.red b (vec cc.1) 0 0).2.2 = cc.2.toNat := fun z => h2 (by show ((HGf.red b (vec cc.1) 0 0).2.2 : Int) = _; rw [z])
          rw [if_neg h2'] at e
          fail "dr"
          refine use_numbers_in (Nat.lt_of_lt_of_le (hl.red _) (Nat.pow_le_pow_right (by decide) (by omega))) ?_
          fail "dr"
          rw [← e] at q
          exact q
        · have h2' : (HGf.red b (vec cc.1) 0 0).2.2 = cc.2.toNat := by exact_mod_cast h2
          rw [if_pos h2'] at e
          fail "dr"
          exact ⟨rfl, _, _, _, _, _, _, _, _, .inl rfl, rfl, e, hl.mono (Nat.le_succ i)⟩
  · obtain ⟨rfl, b, y, x2, x3, x4, x5, x6, x7, hy, rfl, e, hl⟩ := hp
    rw [HW.enumD_len, List.length_map, List.drop_length] at e
    rw [show baseF cs.length (vcs []) b = (b, none) from rfl] at e
    rw [← e] at q
    rcases hy with rfl | rfl
    all_goals
      fail "dr"
      exact q
theorem use_base_of {T : Tx P K mg} {p : Nat} {cs : List (List Bool × Bool)} {n : Nat} {Q : HD.I → Nat → Prop} {E : HD.XD} (h : BookOk p cs) (q : Q (.v (.tup [.lst ((baseF 0 (vcs cs) []).1.map qD), endD (baseF 0 (vcs cs) []).2])) n) : spd_base_of T [bookD T p cs] n Q E := ⟨p, cs, rfl, h, q⟩
local macro_rules | `(tactic| fail "du") => `(tactic| ((with_reducible refine use_base_of ?h ?_); (case h => assumption)))
/-- what a base is for: bounded -/
structure BaseOk (b : List HGf.Q4) : Prop where
  len : b.length ≤ 20
  lot : ∀ q ∈ b, q.l < 2 ^ 20
  vc : ∀ q ∈ b, q.v < 2 ^ 20
/-- a functional that gives the vectors of a base their outcomes -/
def addR : List HGf.Q4 → Nat
  | [] => 0
  | q :: b => if (HBt.nums (q.v &&& addR b)).length % 2 = q.o then addR b else addR b ||| q.h
def stepA (f : Nat) (q : HGf.Q4) : Nat := if (HBt.nums (q.v &&& f)).length % 2 = q.o then f else f ||| q.h
theorem addR_fold (b : List HGf.Q4) : b.reverse.foldl stepA 0 = addR b := by
  rw [List.foldl_reverse]
  induction b with
  | nil => rfl
  | cons q b ih => rw [List.foldr_cons, ih, addR, stepA]
/-- an adder as data: its places and its constant out of a functional -/
def plc (p f : Nat) : List Nat := (List.range p).filter fun i => f.testBit i
def adderF (p f : Nat) : List (Str × HD.D) := [("word", .str "adder"), ("parts", .tup [.tup (HBt.natsD (plc p f)), .int ((f / 2 ^ p % 2 : Nat) : Int)]), ("places", .tup (HBt.natsD (plc p f))), ("constant", .int ((f / 2 ^ p % 2 : Nat) : Int))]
def adderD (T : Tx P K mg) (p f : Nat) : HD.D := .ins T.C_Adder (adderF p f)
theorem fixs_nats (l : List Nat) : HD.D.fixs (HBt.natsD l) = HBt.natsD l := by
  rw [HD.D.fixs_map]
  refine (List.map_congr_left fun d hd => ?_).trans (List.map_id _)
  obtain ⟨i, _, rfl⟩ := List.mem_map.mp hd
  rfl
theorem okK_nats {k : Nat} {l : List Nat} (h : l.length ≤ 100000) : HY.okK K (k + 1) (.lst (HBt.natsD l)) := by
  refine ⟨by rw [HBt.natsD, List.length_map]; exact h, fun x hx => ?_⟩
  obtain ⟨i, _, rfl⟩ := List.mem_map.mp hx
  cases k <;> rfl
theorem filter_bits {p f : Nat} {xs : List HD.D} : ((HBt.rngN p).filter fun d => match d with | .int i => f.testBit i.toNat | _ => false) = HBt.natsD (plc p f) :=
  HBt.filter_map_int (p := fun i => f.testBit i) (fun i => by show f.testBit (i : Int).toNat = _; rw [Int.toNat_natCast]) _
def spd_adder_by (T : Tx P K mg) (ds : List HD.D) (n : Nat) (Q : HD.I → Nat → Prop) (_ : HD.XD) : Prop := ∃ (b : List HGf.Q4) (p : Nat), ds = [.lst (b.map qD), .int (p : Int)] ∧ (BaseOk b ∧ p ≤ 6) ∧ Q (.o (adderD T p (addR b))) n
theorem ok_adder_by (T : Tx P K mg) : FnOk P w K mg base CX0 7 T.f_adder_by T.fd_adder_by ["base", "places"] (HD.lift K (spd_adder_by T)) := by
  refine T.F_adder_by.ok sc_adder_by (fun vs H Q E h => ?_) (fun cdv A outer s H vs Q E hr h => ?_)
  · obtain ⟨cx, nn, args, Qd, Ed, hc, hsp⟩ := h
    obtain ⟨b, p, rfl, ⟨hb, hp⟩, q⟩ := hsp
    exact hc.ra.len
  obtain ⟨cx, nn, args, Qd, Ed, hc, hsp⟩ := h
  obtain ⟨b, p, rfl, ⟨hb, hp⟩, q⟩ := hsp
  refine ⟨_, (pss_cons (ps_set (i := 2) sc_adder_by.nd rfl (by first | exact .inl rfl | exact .inr rfl) pe_int)
      (pss_cons (ps_for PassesOwn.never (by rfl) (pi_listK (K := K) (HC.pe_revK (K := K) (pv 0))) (pg_tupK (K := K) 4 (by rfl) (pgs_cons (pg_name (i := 3) sc_adder_by.nd rfl (by first | exact .inl rfl | exact .inr rfl)) (pgs_cons (pg_name (i := 4) sc_adder_by.nd rfl (by first | exact .inl rfl | exact .inr rfl)) (pgs_cons (pg_name (i := 5) sc_adder_by.nd rfl (by first | exact .inl rfl | exact .inr rfl)) (pgs_cons (pg_name (i := 6) sc_adder_by.nd rfl (by first | exact .inl rfl | exact .inr rfl)) pgs_nil))))) (pss_one (ps_if (pt_cmpR (op_neK (K := K) hr.units) (pe_op op_modU (pe_callB (call_lenK (K := K)) (by rfl) T.z_len (by decide +kernel) (pa_cons (pe_call (ok_numbers_in T) (hr.mono (by decide)) (by rfl) T.g_numbers_in T.F_numbers_in.kp T.b_numbers_in .nil pass0 (pa_cons (pe_op op_and (pv 4) (pv 2)) pa_nil)) pa_nil)) pe_int) (pv 6) (nomark _)) (pss_one (ps_set (i := 2) sc_adder_by.nd rfl (by first | exact .inl rfl | exact .inr rfl) (pe_op op_or (pv 2) (pv 3)))) pss_nil)))
      (pss_one (ps_ret (StX.pe_makeR T.mk_Adder (ok_Adder_init T) (hr.mono (by decide)) (by rfl) T.g_Adder pass0 (pa_cons (pe_lc (own := [("place", 7)]) (g := gName 7) (by rfl) sc_adder_by.nd (pi_range1 (by rfl) T.z_range (pa_cons (pv 1) pa_nil)) (blkOk_by (own := [("place", 7)]) (N := n_adder_by) (sc := defScope s_adder_by) (by decide +kernel)) (fun _ _ _ _ _ => (pg_name (i := 7) sc_adder_by.nd rfl (by first | exact .inl rfl | exact .inr rfl))) (fun _ _ _ _ _ => (pts_one (pt_cmpR (op_eqK (K := K) hr.units) (pe_op op_and (pe_op op_shr (pv 2) (pv 7)) pe_int) pe_int (nomark _)))) (fun _ _ _ _ _ => (pv 7))) (pa_cons (pe_op op_and (pe_op op_shr (pv 2) (pv 1)) pe_int) pa_nil))))))), HD.enter (ρ := [HD.S.v (.lst (b.map qD) : HD.D), HD.S.v (.int (p : Int) : HD.D), HD.S.un, HD.S.un, HD.S.un, HD.S.un, HD.S.un, HD.S.un]) hc rfl ?_⟩
  clear hc

  fail "dr"
  rw [← List.map_reverse]
  refine HD.ForD.inv (fun i ρ m => m = nn ∧ ∃ (f : Nat) (x3 x4 x5 x6 x7 : HD.S), ρ = [.v (.lst (b.map qD)), .v (.int (p : Int)), .v (.int (f : Int)), x3, x4, x5, x6, x7] ∧ (b.reverse.drop i).foldl stepA f = addR b) ⟨rfl, 0, _, _, _, _, _, rfl, addR_fold b⟩ (fun i x ρ m hx hi hp => ?_) (fun ρ m hp => ?_)
  · obtain ⟨rfl, f, x3, x4, x5, x6, x7, rfl, e⟩ := hp
    obtain ⟨q0, hq, rfl⟩ : ∃ q0, b.reverse[i]? = some q0 ∧ x = qD q0 := by
      rw [List.getElem?_map] at hx
      cases h : b.reverse[i]? with
      | none => rw [h] at hx; cases hx
      | some q0 => rw [h] at hx; exact ⟨q0, rfl, (Option.some.inj hx).symm⟩
    have hm : q0 ∈ b := List.mem_reverse.mp (List.mem_of_getElem? hq)
    obtain ⟨hlt, ec⟩ := List.getElem?_eq_some_iff.mp hq
    rw [List.drop_eq_getElem_cons hlt, ec, List.foldl_cons, stepA] at e
    fail "dr"
    refine use_numbers_in (Nat.lt_of_le_of_lt (Nat.and_le_left) (Nat.lt_of_lt_of_le (hb.vc q0 hm) (by decide))) ?_
    fail "dr"
    rw [HBt.natsD, List.length_map]
    fail "dr"
    intro z hz z0 z1
    fail "dr"
    refine HX.itend_ (fun h => ?_) (fun h => ?_)
    · rw [if_neg (fun y => h (by rw [← hz, ← y]; push_cast; rfl))] at e
      fail "dr"
      exact ⟨rfl, _, _, _, _, _, _, rfl, e⟩
    · rw [if_pos (by have : (((HBt.nums (q0.v &&& f)).length % 2 : Nat) : Int) = (q0.o : Int) := by push_cast; rw [← h, ← hz]
                     exact_mod_cast this)] at e
      fail "dr"
      exact ⟨rfl, _, _, _, _, _, _, rfl, e⟩
  · obtain ⟨rfl, f, x3, x4, x5, x6, x7, rfl, e⟩ := hp
    rw [List.length_map, List.length_reverse, ← List.length_reverse, List.drop_length, List.foldl_nil] at e
    subst e
    fail "dr"
    rw [HBt.rngN_eq]
    refine HD.CpD.filD (xs := HBt.rngN p) (fun d => match d with | .int i => (addR b).testBit i.toNat | _ => false) id (by rw [HBt.rngN_len]; omega) (fun y hy ys => ?_) ?_
    · obtain ⟨i, hi, rfl⟩ := HBt.rngN_mem hy
      fail "dr"
      rw [HBt.testBit_div]
      fail "dr"
      refine ⟨by rw [Int.toNat_natCast], ?_⟩
      split
      · fail "dr"
        exact ⟨rfl, rfl, rfl⟩
      · exact ⟨rfl, rfl⟩
    · rw [List.map_id, filter_bits (xs := [])]
      fail "dr"
      refine use_Adder_init (okK_nats (by unfold plc; have := List.length_filter_le (fun i => (addR b).testBit i) (List.range p); rw [List.length_range] at this; omega)) rfl ?_
      fail "dr"
      rw [HD.D.fix, fixs_nats]
      exact q
theorem use_adder_by {T : Tx P K mg} {b : List HGf.Q4} {p : Nat} {n : Nat} {Q : HD.I → Nat → Prop} {E : HD.XD} (h : BaseOk b ∧ p ≤ 6) (q : Q (.o (adderD T p (addR b))) n) : spd_adder_by T [.lst (b.map qD), .int (p : Int)] n Q E := ⟨b, p, rfl, h, q⟩
def VcLt (b : List HGf.Q4) : Prop := ∀ q ∈ b, q.v < 2 ^ 7
theorem red_vc : ∀ {b : List HGf.Q4} {v t o : Nat}, VcLt b → v < 2 ^ 7 → (HGf.red b v t o).1 < 2 ^ 7
  | [], _, _, _, _, h => h
  | q :: b, v, t, o, hb, h => by
    rw [HGf.red]
    split
    · exact red_vc (fun p hp => hb p (List.mem_cons_of_mem _ hp)) h
    · exact red_vc (fun p hp => hb p (List.mem_cons_of_mem _ hp)) (Nat.xor_lt_two_pow h (hb q (List.mem_cons_self ..)))
theorem VcLt.new {b : List HGf.Q4} (h : VcLt b) {x l o : Nat} (hx : x < 2 ^ 7) : VcLt (b ++ [newQ x l o]) := fun q hq => by
  rcases List.mem_append.mp hq with hq | hq
  · exact h q hq
  · rw [List.mem_singleton.mp hq]; exact hx
theorem baseF_ok : ∀ {cs : List (Nat × Nat)} {n : Nat} {b : List HGf.Q4}, VcLt b → (∀ c ∈ cs, c.1 < 2 ^ 7) → LotLt n b → LotLt (n + cs.length) (baseF n cs b).1 ∧ VcLt (baseF n cs b).1 ∧ ∀ x, (baseF n cs b).2 = some x → x < 2 ^ (n + cs.length)
  | [], n, b, h1, _, h3 => ⟨h3, h1, fun x h => by cases h⟩
  | (v, o) :: cs, n, b, h1, h2, h3 => by
    have hv : v < 2 ^ 7 := h2 (v, o) (List.mem_cons_self ..)
    have ht : ∀ c ∈ cs, c.1 < 2 ^ 7 := fun c hc => h2 c (List.mem_cons_of_mem _ hc)
    rw [List.length_cons, show n + (cs.length + 1) = n + 1 + cs.length by omega, baseF]
    split
    · split
      · exact baseF_ok h1 ht (h3.mono (Nat.le_succ n))
      · exact ⟨h3.mono (by omega), h1, fun x hx => by cases hx; exact Nat.lt_of_lt_of_le (h3.red v) (Nat.pow_le_pow_right (by decide) (by omega))⟩
    · exact baseF_ok (h1.new (red_vc h1 hv)) ht (h3.new v _ _)
theorem vcs_lt {p : Nat} {cs : List (List Bool × Bool)} (h : BookOk p cs) : ∀ c ∈ vcs cs, c.1 < 2 ^ 7 := fun c hc => by
  obtain ⟨d, hd, rfl⟩ := List.mem_map.mp hc
  have h1 := vec_lt d.1
  have h2 := h.len d hd
  have h3 := h.p6
  exact Nat.lt_of_lt_of_le h1 (Nat.pow_le_pow_right (by decide) (by omega))
theorem base_all {p : Nat} {cs : List (List Bool × Bool)} (h : BookOk p cs) : LotLt 16 (baseF 0 (vcs cs) []).1 ∧ VcLt (baseF 0 (vcs cs) []).1 ∧ ∀ x, (baseF 0 (vcs cs) []).2 = some x → x < 2 ^ 16 := by
  obtain ⟨h1, h2, h3⟩ := baseF_ok (cs := vcs cs) (n := 0) (b := []) (fun q hq => by cases hq) (vcs_lt h) ⟨Nat.le_refl _, fun q hq => by cases hq⟩
  have hl : 0 + (vcs cs).length ≤ 16 := by rw [vcs, List.length_map, Nat.zero_add]; exact h.few
  exact ⟨h1.mono hl, h2, fun x hx => Nat.lt_of_lt_of_le (h3 x hx) (Nat.pow_le_pow_right (by decide) hl)⟩
theorem baseOk_of {b : List HGf.Q4} (h1 : LotLt 16 b) (h2 : VcLt b) : BaseOk b := ⟨by have := h1.1; omega, fun q hq => Nat.lt_of_lt_of_le (h1.2 q hq) (by decide), fun q hq => Nat.lt_of_lt_of_le (h2 q hq) (by decide)⟩
theorem baseOk_new {b : List HGf.Q4} (h1 : LotLt 16 b) (h2 : VcLt b) {v o : Nat} (hv : v < 2 ^ 7) : BaseOk (b ++ [newQ (HGf.red b v 0 0).1 (HGf.red b v 0 0).2.1 o]) := by
  refine ⟨by rw [List.length_append]; have := h1.1; simp; omega, fun q hq => ?_, fun q hq => Nat.lt_of_lt_of_le (h2.new (red_vc h2 hv) q hq) (by decide)⟩
  rcases List.mem_append.mp hq with hq | hq
  · exact Nat.lt_of_lt_of_le (h1.2 q hq) (by decide)
  · rw [List.mem_singleton.mp hq]; exact Nat.lt_of_lt_of_le (red_lot h1.2 (by decide)) (by decide)
def spd_possible_base (T : Tx P K mg) (ds : List HD.D) (n : Nat) (Q : HD.I → Nat → Prop) (_ : HD.XD) : Prop := ∃ (p : Nat) (cs : List (List Bool × Bool)) (b : List HGf.Q4), ds = [bookD T p cs] ∧ (BookOk p cs ∧ baseF 0 (vcs cs) [] = (b, none)) ∧ Q (.v (.lst (b.map qD))) n
theorem ok_possible_base (T : Tx P K mg) : FnOk P w K mg base CX0 7 T.f_possible_base T.fd_possible_base ["book"] (HD.lift K (spd_possible_base T)) := by
  refine T.F_possible_base.ok sc_possible_base (fun vs H Q E h => ?_) (fun cdv A outer s H vs Q E hr h => ?_)
  · obtain ⟨cx, nn, args, Qd, Ed, hc, hsp⟩ := h
    obtain ⟨p, cs, b, rfl, ⟨hb, e⟩, q⟩ := hsp
    exact hc.ra.len
  obtain ⟨cx, nn, args, Qd, Ed, hc, hsp⟩ := h
  obtain ⟨p, cs, b, rfl, ⟨hb, e⟩, q⟩ := hsp
  refine ⟨_, (pss_cons (ps_asg (pe_call (ok_base_of T) (hr.mono (by decide)) (by rfl) T.g_base_of T.F_base_of.kp T.b_base_of .nil pass0 (pa_cons (pv 0) pa_nil)) (pg_tupK (K := K) 2 (by rfl) (pgs_cons (pg_name (i := 1) sc_possible_base.nd rfl (by first | exact .inl rfl | exact .inr rfl)) (pgs_cons (pg_name (i := 2) sc_possible_base.nd rfl (by first | exact .inl rfl | exact .inr rfl)) pgs_nil))))
      (pss_cons (ps_if (pt_cmpR op_notNU (pv 2) pe_non (nomark _)) (pss_one ps_never) pss_nil)
      (pss_one (ps_ret (pv 1))))), HD.enter (ρ := [HD.S.v (bookD T p cs : HD.D), HD.S.un, HD.S.un]) hc rfl ?_⟩
  clear hc

  fail "dr"
  rw [e]
  fail "dr"
  exact q
theorem use_possible_base {T : Tx P K mg} {p : Nat} {cs : List (List Bool × Bool)} {b : List HGf.Q4} {n : Nat} {Q : HD.I → Nat → Prop} {E : HD.XD} (h : BookOk p cs ∧ baseF 0 (vcs cs) [] = (b, none)) (q : Q (.v (.lst (b.map qD))) n) : spd_possible_base T [bookD T p cs] n Q E := ⟨p, cs, b, rfl, h, q⟩
def fitsD (T : Tx P K mg) (p f : Nat) : HD.D := .ins T.C_Fits [("word", .str "fits"), ("parts", .tup [adderD T p f]), ("adder", adderD T p f)]
def quarrelD (T : Tx P K mg) (x : Nat) : HD.D := .ins T.C_Quarrel [("word", .str "quarrel"), ("parts", .tup [.tup (HBt.natsD (HBt.nums x))]), ("numbers", .tup (HBt.natsD (HBt.nums x)))]
def forcedD (T : Tx P K mg) (o x : Nat) : HD.D := .ins T.C_Forced [("word", .str "forced"), ("parts", .tup [.int (o : Int), .tup (HBt.natsD (HBt.nums x))]), ("outcome", .int (o : Int)), ("numbers", .tup (HBt.natsD (HBt.nums x)))]
def openD (T : Tx P K mg) (p f g : Nat) : HD.D := .ins T.C_Open [("word", .str "open"), ("parts", .tup [adderD T p f, adderD T p g]), ("one", adderD T p f), ("other", adderD T p g)]
theorem nums_len (x : Nat) : (HBt.nums x).length ≤ 100000 := by
  have := List.length_filter_le (fun i => x.testBit i) (List.range 64)
  rw [List.length_range] at this
  unfold HBt.nums
  omega
theorem fix_int (i : Int) : (HD.D.int i).fix = .int i := by simp [HD.D.fix]
theorem fix_nats (l : List Nat) : (HD.D.lst (HBt.natsD l)).fix = .tup (HBt.natsD l) := by rw [HD.D.fix, fixs_nats]
theorem fix_adder (T : Tx P K mg) (p f : Nat) : (adderD T p f).fix = adderD T p f := by unfold adderD; simp [HD.D.fix]
/-- what quarrel tells -/
def quarrelR (T : Tx P K mg) (p : Nat) (r : List HGf.Q4 × Option Nat) : HD.D := match r with
  | (b, none) => fitsD T p (addR b)
  | (_, some x) => quarrelD T x
def spd_quarrel (T : Tx P K mg) (ds : List HD.D) (n : Nat) (Q : HD.I → Nat → Prop) (_ : HD.XD) : Prop := ∃ (p : Nat) (cs : List (List Bool × Bool)), ds = [bookD T p cs] ∧ BookOk p cs ∧ Q (.o (quarrelR T p (baseF 0 (vcs cs) []))) n
theorem ok_quarrel (T : Tx P K mg) : FnOk P w K mg base CX0 8 T.f_quarrel T.fd_quarrel ["book"] (HD.lift K (spd_quarrel T)) := by
  refine T.F_quarrel.ok sc_quarrel (fun vs H Q E h => ?_) (fun cdv A outer s H vs Q E hr h => ?_)
  · obtain ⟨cx, nn, args, Qd, Ed, hc, hsp⟩ := h
    obtain ⟨p, cs, rfl, hb, q⟩ := hsp
    exact hc.ra.len
  obtain ⟨cx, nn, args, Qd, Ed, hc, hsp⟩ := h
  obtain ⟨p, cs, rfl, hb, q⟩ := hsp
  refine ⟨_, (pss_cons (ps_expr (pe_call (ok_need_book T) (hr.mono (by decide)) (by rfl) T.g_need_book T.F_need_book.kp T.b_need_book .nil pass0 (pa_cons (pv 0) (pa_cons pe_str pa_nil))))
      (pss_cons (ps_asg (pe_call (ok_base_of T) (hr.mono (by decide)) (by rfl) T.g_base_of T.F_base_of.kp T.b_base_of .nil pass0 (pa_cons (pv 0) pa_nil)) (pg_tupK (K := K) 2 (by rfl) (pgs_cons (pg_name (i := 1) sc_quarrel.nd rfl (by first | exact .inl rfl | exact .inr rfl)) (pgs_cons (pg_name (i := 2) sc_quarrel.nd rfl (by first | exact .inl rfl | exact .inr rfl)) pgs_nil))))
      (pss_one (ps_ret (pe_ifExp (pt_cmpR op_isNU (pv 2) pe_non (nomark _)) (StX.pe_makeR T.mk_Fits (ok_Fits_init T) (hr.mono (by decide)) (by rfl) T.g_Fits pass0 (pa_cons (pe_call (ok_adder_by T) (hr.mono (by decide)) (by rfl) T.g_adder_by T.F_adder_by.kp T.b_adder_by .nil pass0 (pa_cons (pv 1) (pa_cons (HC.pe_fldK (K := K) (pv 0)) pa_nil))) pa_nil)) (StX.pe_makeR T.mk_Quarrel (ok_Quarrel_init T) (hr.mono (by decide)) (by rfl) T.g_Quarrel pass0 (pa_cons (pv 2) pa_nil))))))), HD.enter (ρ := [HD.S.v (bookD T p cs : HD.D), HD.S.un, HD.S.un]) hc rfl ?_⟩
  clear hc

  obtain ⟨h1, h2, h3⟩ := base_all hb
  have hp := hb.p6
  fail "dr"
  generalize baseF 0 (vcs cs) [] = r at h1 h2 h3 q ⊢
  obtain ⟨b, x⟩ := r
  cases x with
  | none =>
    fail "dr"
    refine use_adder_by ⟨baseOk_of h1 h2, hp⟩ ?_
    fail "dr"
    refine use_Fits_init (noSq_Adder T) ?_
    rw [fix_adder]
    fail "dr"
    exact q
  | some x =>
    fail "dr"
    refine use_Quarrel_init (okK_nats (nums_len x)) ?_
    rw [show (endD (some x)) = HD.D.lst (HBt.natsD (HBt.nums x)) from rfl, fix_nats]
    fail "dr"
    exact q
theorem use_quarrel {T : Tx P K mg} {p : Nat} {cs : List (List Bool × Bool)} {n : Nat} {Q : HD.I → Nat → Prop} {E : HD.XD} (h : BookOk p cs) (q : Q (.o (quarrelR T p (baseF 0 (vcs cs) []))) n) : spd_quarrel T [bookD T p cs] n Q E := ⟨p, cs, rfl, h, q⟩
/-- what word_of tells of a vector -/
def wordR (T : Tx P K mg) (p : Nat) (b : List HGf.Q4) (v : Nat) : HD.D :=
  if (HGf.red b v 0 0).1 = 0 then forcedD T (HGf.red b v 0 0).2.2 (HGf.red b v 0 0).2.1
  else openD T p (addR (b ++ [newQ (HGf.red b v 0 0).1 (HGf.red b v 0 0).2.1 ((HGf.red b v 0 0).2.2 ^^^ 0)])) (addR (b ++ [newQ (HGf.red b v 0 0).1 (HGf.red b v 0 0).2.1 ((HGf.red b v 0 0).2.2 ^^^ 1)]))
def spd_word_of (T : Tx P K mg) (ds : List HD.D) (n : Nat) (Q : HD.I → Nat → Prop) (_ : HD.XD) : Prop := ∃ (p : Nat) (cs : List (List Bool × Bool)) (d : HD.D) (r : List Bool) (b : List HGf.Q4), ds = [bookD T p cs, d] ∧ (BookOk p cs ∧ d.seq = some (r.map bitD) ∧ r.length = p ∧ baseF 0 (vcs cs) [] = (b, none)) ∧ Q (.o (wordR T p b (vec r))) n
theorem ok_word_of (T : Tx P K mg) : FnOk P w K mg base CX0 8 T.f_word_of T.fd_word_of ["book", "row"] (HD.lift K (spd_word_of T)) := by
  refine T.F_word_of.ok sc_word_of (fun vs H Q E h => ?_) (fun cdv A outer s H vs Q E hr h => ?_)
  · obtain ⟨cx, nn, args, Qd, Ed, hc, hsp⟩ := h
    obtain ⟨p, cs, d, r, b, rfl, ⟨hb, h1, h2, e⟩, q⟩ := hsp
    exact hc.ra.len
  obtain ⟨cx, nn, args, Qd, Ed, hc, hsp⟩ := h
  obtain ⟨p, cs, d, r, b, rfl, ⟨hb, h1, h2, e⟩, q⟩ := hsp
  refine ⟨_, (pss_cons (ps_expr (pe_call (ok_need_row_of T) (hr.mono (by decide)) (by rfl) T.g_need_row_of T.F_need_row_of.kp T.b_need_row_of .nil pass0 (pa_cons (pv 0) (pa_cons (pv 1) pa_nil))))
      (pss_cons (ps_set (i := 2) sc_word_of.nd rfl (by first | exact .inl rfl | exact .inr rfl) (pe_call (ok_possible_base T) (hr.mono (by decide)) (by rfl) T.g_possible_base T.F_possible_base.kp T.b_possible_base .nil pass0 (pa_cons (pv 0) pa_nil)))
      (pss_cons (ps_asg (pe_call (ok_reduced T) (hr.mono (by decide)) (by rfl) T.g_reduced T.F_reduced.kp T.b_reduced .nil pass0 (pa_cons (pv 2) (pa_cons (pe_call (ok_vector_of T) (hr.mono (by decide)) (by rfl) T.g_vector_of T.F_vector_of.kp T.b_vector_of .nil pass0 (pa_cons (pv 1) pa_nil)) pa_nil))) (pg_tupK (K := K) 3 (by rfl) (pgs_cons (pg_name (i := 3) sc_word_of.nd rfl (by first | exact .inl rfl | exact .inr rfl)) (pgs_cons (pg_name (i := 4) sc_word_of.nd rfl (by first | exact .inl rfl | exact .inr rfl)) (pgs_cons (pg_name (i := 5) sc_word_of.nd rfl (by first | exact .inl rfl | exact .inr rfl)) pgs_nil)))))
      (pss_cons (ps_if (pt_cmpR (op_eqK (K := K) hr.units) (pv 3) pe_int (nomark _)) (pss_one (ps_ret (StX.pe_makeR T.mk_Forced (ok_Forced_init T) (hr.mono (by decide)) (by rfl) T.g_Forced pass0 (pa_cons (pv 5) (pa_cons (pe_call (ok_numbers_in T) (hr.mono (by decide)) (by rfl) T.g_numbers_in T.F_numbers_in.kp T.b_numbers_in .nil pass0 (pa_cons (pv 4) pa_nil)) pa_nil))))) pss_nil)
      (pss_cons (ps_setLc (i := 7) (own := [("outcome", 6)]) (g := gName 6) (tt := tYes) (by rfl) sc_word_of.nd rfl rfl (sw_true rfl rfl rfl (by decide +kernel)) (pi_tupK (K := K) (pe_tup (pa_cons pe_int (pa_cons pe_int pa_nil)))) (blkOk_by (own := [("outcome", 6)]) (N := n_word_of) (sc := defScope s_word_of) (by decide +kernel)) (fun _ _ _ _ _ => (pg_name (i := 6) sc_word_of.nd rfl (by first | exact .inl rfl | exact .inr rfl))) (fun _ _ _ _ _ => pts_nil) (fun _ _ _ _ _ => (pe_call (ok_wider T) (hr.mono (by decide)) (by rfl) T.g_wider T.F_wider.kp T.b_wider .nil pass0 (pa_cons (pv 2) (pa_cons (pv 3) (pa_cons (pv 4) (pa_cons (pe_op op_xor (pv 5) (pv 6)) pa_nil)))))))
      (pss_one (ps_ret (StX.pe_makeR T.mk_Open (ok_Open_init T) (hr.mono (by decide)) (by rfl) T.g_Open pass0 (pa_cons (pe_call (ok_adder_by T) (hr.mono (by decide)) (by rfl) T.g_adder_by T.F_adder_by.kp T.b_adder_by .nil pass0 (pa_cons (pe_ix (ix_K (K := K)) (pv 7) pe_int (fun _ _ => rfl)) (pa_cons (HC.pe_fldK (K := K) (pv 0)) pa_nil))) (pa_cons (pe_call (ok_adder_by T) (hr.mono (by decide)) (by rfl) T.g_adder_by T.F_adder_by.kp T.b_adder_by .nil pass0 (pa_cons (pe_ix (ix_K (K := K)) (pv 7) pe_int (fun _ _ => rfl)) (pa_cons (HC.pe_fldK (K := K) (pv 0)) pa_nil))) pa_nil)))))))))), HD.enter (ρ := [HD.S.v (bookD T p cs : HD.D), HD.S.v (d : HD.D), HD.S.un, HD.S.un, HD.S.un, HD.S.un, HD.S.un, HD.S.un]) hc rfl ?_⟩
  clear hc

  obtain ⟨b1, b2, _⟩ := base_all hb
  rw [e] at b1 b2
  have hp := hb.p6
  have hv : vec r < 2 ^ 7 := Nat.lt_of_lt_of_le (vec_lt r) (Nat.pow_le_pow_right (by decide) (by omega))
  have hb1 : b.length ≤ 16 := b1.1
  fail "dr"
  refine use_need_row_of ⟨h1, h2, hp⟩ ?_
  fail "dr"
  refine use_possible_base ⟨hb, e⟩ ?_
  fail "dr"
  refine use_vector_of ⟨h1, by omega⟩ ?_
  fail "dr"
  unfold wordR at q
  refine HX.ited_ (fun h => ?_) (fun h => ?_)
  · have h' : (HGf.red b (vec r) 0 0).1 = 0 := by exact_mod_cast h
    rw [if_pos h'] at q
    fail "dr"
    refine use_numbers_in (Nat.lt_of_lt_of_le (red_lot b1.2 (by decide)) (by decide)) ?_
    fail "dr"
    refine use_Forced_init rfl (okK_nats (nums_len _)) ?_
    rw [fix_int, fix_nats]
    fail "dr"
    exact q
  · have h' : ¬ (HGf.red b (vec r) 0 0).1 = 0 := fun z => h (by show ((HGf.red b (vec r) 0 0).1 : Int) = 0; rw [z]; rfl)
    rw [if_neg h'] at q
    fail "dr"
    rw [show Builtin.bitXor ((HGf.red b (vec r) 0 0).2.2 : Int) 0 = (((HGf.red b (vec r) 0 0).2.2 ^^^ 0 : Nat) : Int) from HY.xor_nat _ 0]
    refine use_wider ⟨Nat.pos_of_ne_zero h', by omega⟩ ?_
    fail "dr"
    rw [show Builtin.bitXor ((HGf.red b (vec r) 0 0).2.2 : Int) 1 = (((HGf.red b (vec r) 0 0).2.2 ^^^ 1 : Nat) : Int) from HY.xor_nat _ 1]
    refine use_wider ⟨Nat.pos_of_ne_zero h', by omega⟩ ?_
    fail "dr"
    refine use_adder_by ⟨baseOk_new b1 b2 hv, hp⟩ ?_
    fail "dr"
    refine use_adder_by ⟨baseOk_new b1 b2 hv, hp⟩ ?_
    fail "dr"
    refine use_Open_init (noSq_Adder T) (noSq_Adder T) ?_
    rw [fix_adder, fix_adder]
    fail "dr"
    exact q
theorem use_word_of {T : Tx P K mg} {p : Nat} {cs : List (List Bool × Bool)} {d : HD.D} {r : List Bool} {b : List HGf.Q4} {n : Nat} {Q : HD.I → Nat → Prop} {E : HD.XD} (h : BookOk p cs ∧ d.seq = some (r.map bitD) ∧ r.length = p ∧ baseF 0 (vcs cs) [] = (b, none)) (q : Q (.o (wordR T p b (vec r))) n) : spd_word_of T [bookD T p cs, d] n Q E := ⟨p, cs, d, r, b, rfl, h, q⟩
theorem prod2_bd {x y : Int} {m n : Nat} (hx : 0 ≤ x ∧ x ≤ m) (hy : 0 ≤ y ∧ y ≤ n) : 0 ≤ x * y ∧ x * y ≤ ((m * n : Nat) : Int) := by
  refine ⟨Int.mul_nonneg hx.1 hy.1, ?_⟩
  rw [Int.natCast_mul]
  exact Int.mul_le_mul hx.2 hy.2 hy.1 (by omega)
theorem ok__law_well (T : Tx P K mg) : FnOk P w K mg base CX0 1 T.f__law_well T.fd__law_well ["script"] (HD.spV_hat K) := by
  refine T.F__law_well.ok sc__law_well (fun vs H Q E h => ?_) (fun cdv A outer s H vs Q E hr h => ?_)
  · obtain ⟨a, ns, rfl, hS, hl, q⟩ := h; rfl
  obtain ⟨a, ns, rfl, hS, hl, q⟩ := h
  refine ⟨_, (pss_one (ps_ret (pe_lst (pa_cons (pe_lc (own := [("cell", 1)]) (g := gName 1) (tt := tYes) (by rfl) sc__law_well.nd (pi_listK (K := K) (pe_slice (sl_K (K := K)) (pv 0) po_none (po_some pe_int))) (blkOk_by (own := [("cell", 1)]) (N := n__law_well) (sc := defScope s__law_well) (by decide +kernel)) (fun _ _ _ _ _ => (pg_name (i := 1) sc__law_well.nd rfl (by first | exact .inl rfl | exact .inr rfl))) (fun _ _ _ _ _ => pts_nil) (fun _ _ _ _ _ => (pe_callTy call_intU (by rfl) T.z_int (by decide +kernel) (pa_cons (pv 1) pa_nil)))) (pa_cons pe_int (pa_cons pe_int pa_nil)))))), ?_⟩
  refine HX.start_ (σ := [some (.ref a : V), none]) rfl ?_
  fail "hr"
  refine HX.slL_ hS ?_
  intro p hp
  rw [show ((63 : Int)) = ((63 : Nat) : Int) from rfl, HX.cut_to, ← List.map_take]
  refine ⟨p, rfl, ⟨_, SqL.of upd_same⟩, ?_⟩
  intro D hD
  refine HX.lcLp (xs := (ns.take 63).map V.int) id (SqL.of upd_same) hD (Nat.ble_eq_true_of_le ?_) (fun _ => rfl) (fun i x H' R hx e k => ?_) (fun H' e hL => ?_)
  · rw [List.length_map, List.length_take]; omega
  · obtain ⟨z, rfl⟩ : ∃ z, x = .int z := by
      rw [List.getElem?_map] at hx
      cases e : (ns.take 63)[i]? with
      | none => rw [e] at hx; cases hx
      | some z => rw [e] at hx; exact ⟨z, (Option.some.inj hx).symm⟩
    fail "hw"
    fail "hr"
    exact k _ (Same.refl _)
  · fail "hr"
    intro u hu
    rw [List.map_id] at hL
    have s1 : Same H H' := (HX.same_new hp).trans e
    refine q u D (ns.take 63) _ (s1.trans (HX.same_new hu)) (s1.free hu) ⟨⟨0, 0, upd_same, by omega, by omega⟩, ne_of_none hL hu, ?_, ?_⟩
    · rw [upd_ne (ne_of_none hL hu)]; exact hL
    · rw [List.length_take]; omega
theorem okV__law_sip (T : Tx P K mg) : FnOk P w K mg base CX0 1 T.f__law_sip T.fd__law_sip ["well", "many"] HD.spV_lot := by
  refine T.F__law_sip.ok sc__law_sip (fun vs H Q E h => ?_) (fun cdv A outer s H vs Q E hr h => ?_)
  · obtain ⟨a, m, c, ns, n, rfl, hh, hn, hm, hm2, q⟩ := h; rfl
  obtain ⟨a, m, c, ns, n, rfl, hh, hn, hm, hm2, q⟩ := h
  refine ⟨_, (pss_cons (ps_if (pt_cmpR op_gt (pe_ix (ix_K (K := K)) (pv 0) pe_int (fun _ _ => rfl)) pe_int (nomark _)) (pss_cons (ps_set (i := 2) sc__law_sip.nd rfl (by first | exact .inl rfl | exact .inr rfl) (pe_ix (ix_K (K := K)) (pv 0) pe_int (fun _ _ => rfl)))
      (pss_cons (ps_asg (pe_op op_fdivU (pe_callTy call_intU (by rfl) T.z_int (by decide +kernel) (pa_cons (pv 2) pa_nil)) (pv 1)) (pg_sub (pv 0) pe_int set_list))
      (pss_one (ps_ret (pe_op op_modU (pe_callTy call_intU (by rfl) T.z_int (by decide +kernel) (pa_cons (pv 2) pa_nil)) (pv 1)))))) pss_nil)
      (pss_cons (ps_set (i := 3) sc__law_sip.nd rfl (by first | exact .inl rfl | exact .inr rfl) (pe_ix (ix_K (K := K)) (pv 0) pe_int (fun _ _ => rfl)))
      (pss_cons (ps_asg (pe_op (op_addK (K := K)) (pv 3) pe_int) (pg_sub (pv 0) pe_int set_list))
      (pss_cons (ps_set (i := 4) sc__law_sip.nd rfl (by first | exact .inl rfl | exact .inr rfl) (pe_op (op_addK (K := K)) (pe_op op_mulU pe_int (pv 3)) pe_int))
      (Evl.pss_cut (ps_if (pt_cmpR (op_neK (K := K) hr.units) (pe_ix (ix_K (K := K)) (pv 0) pe_int (fun _ _ => rfl)) (pe_lst pa_nil) (nomark _)) (pss_one (ps_set (i := 4) sc__law_sip.nd rfl (by first | exact .inl rfl | exact .inr rfl) (pe_ix (ix_K (K := K)) (pe_ix (ix_K (K := K)) (pv 0) pe_int (fun _ _ => rfl)) (pe_op op_modU (pe_callTy call_intU (by rfl) T.z_int (by decide +kernel) (pa_cons (pv 3) pa_nil)) (pe_callB (call_lenK (K := K)) (by rfl) T.z_len (by decide +kernel) (pa_cons (pe_ix (ix_K (K := K)) (pv 0) pe_int (fun _ _ => rfl)) pa_nil))) (fun _ _ => rfl)))) pss_nil)
      (Evl.pss_cut (ps_if (PW.pt (pw_and (pt_cmpR op_lt (pv 3) (pe_callB (call_lenK (K := K)) (by rfl) T.z_len (by decide +kernel) (pa_cons (pe_ix (ix_K (K := K)) (pv 0) pe_int (fun _ _ => rfl)) pa_nil)) (nomark _)) (pw_and1 (pt_cmpR op_ge (pe_callB call_absU (by rfl) T.z_abs (by decide +kernel) (pa_cons (pv 4) pa_nil)) (pe_op op_pow pe_int pe_int) (nomark _))))) (pss_cons (ps_set (i := 2) sc__law_sip.nd rfl (by first | exact .inl rfl | exact .inr rfl) (pe_op (op_addK (K := K)) (pe_op op_mulU pe_int (pe_op op_sub (pe_callB call_absU (by rfl) T.z_abs (by decide +kernel) (pa_cons (pv 4) pa_nil)) (pe_op op_pow pe_int pe_int))) (pe_callTy call_intU (by rfl) T.z_int (by decide +kernel) (pa_cons (pe_cmpR op_lt (pv 4) pe_int (nomark _)) pa_nil))))
      (pss_cons (ps_asg (pe_op op_fdivU (pe_callTy call_intU (by rfl) T.z_int (by decide +kernel) (pa_cons (pv 2) pa_nil)) (pv 1)) (pg_sub (pv 0) pe_int set_list))
      (pss_one (ps_ret (pe_op op_modU (pe_callTy call_intU (by rfl) T.z_int (by decide +kernel) (pa_cons (pv 2) pa_nil)) (pv 1)))))) pss_nil)
      (pss_cons (ps_set (i := 5) sc__law_sip.nd rfl (by first | exact .inl rfl | exact .inr rfl) (pe_op op_modU (pe_callTy call_intU (by rfl) T.z_int (by decide +kernel) (pa_cons (pe_op op_pow (pe_op (op_addK (K := K)) (pe_op (op_addK (K := K)) (pe_op op_modU (pe_callTy call_intU (by rfl) T.z_int (by decide +kernel) (pa_cons (pv 4) pa_nil)) pe_int) (pe_op op_mulU pe_int (pv 3))) pe_int) pe_int) pa_nil)) pe_int))
      (pss_cons (ps_set (i := 5) sc__law_sip.nd rfl (by first | exact .inl rfl | exact .inr rfl) (pe_op op_modU (pe_callTy call_intU (by rfl) T.z_int (by decide +kernel) (pa_cons (pe_op op_pow (pe_op (op_addK (K := K)) (pe_op (op_addK (K := K)) (pe_op op_mulU (pv 5) (pe_op (op_addK (K := K)) (pe_op op_mulU pe_int (pv 3)) pe_int)) (pe_op op_mulU (pe_op op_mulU pe_int (pv 3)) (pv 3))) pe_int) pe_int) pa_nil)) pe_int))
      (pss_one (ps_ret (pe_op op_modU (pe_callTy call_intU (by rfl) T.z_int (by decide +kernel) (pa_cons (pe_op op_fdivU (pv 5) pe_int) pa_nil)) (pv 1)))))))))))), ?_⟩
  refine HX.start_ (σ := [some (.ref a : V), some (.int m : V), none, none, none, none]) rfl ?_
  obtain ⟨⟨t, r, hA, ht0, ht1⟩, hca, hC, hle⟩ := id hh
  fail "hr"
  refine HX.ixL_ (SqL.of hA) rfl ?_
  fail "hr"
  refine HX.ited_ (fun h => ?_) (fun h => ?_)
  · fail "hr"
    refine HX.ixL_ (SqL.of hA) rfl ?_
    fail "hr"
    refine HX.setL_ hA rfl ?_
    fail "hr"
    intro d _ hd0 hd1
    exact q d _ hd0 hd1 (kept_upd (Kept.refl _ _)) ⟨⟨_, _, upd_same, ht0, by omega⟩, hca, by rw [upd_ne hca]; exact hC, hle⟩
  · fail "hr"
    refine HX.ixL_ (SqL.of hA) rfl ?_
    fail "hr"
    refine HX.setL_ (j := 1) hA rfl ?_
    fail "hr"
    rw [show [V.ref c, V.int t, V.int r].set 1 (V.int (t + 1)) = [V.ref c, V.int (t + 1), V.int r] from rfl]
    have hA2 : (upd H a (.lst [V.ref c, V.int (t + 1), V.int r])) a = some (.lst [V.ref c, V.int (t + 1), V.int r]) := upd_same
    have hC2 : (upd H a (.lst [V.ref c, V.int (t + 1), V.int r])) c = some (.lst (ns.map V.int)) := by rw [upd_ne hca]; exact hC
    have hk2 : Kept a H (upd H a (.lst [V.ref c, V.int (t + 1), V.int r])) := kept_upd (Kept.refl _ _)
    generalize (upd H a (.lst [V.ref c, V.int (t + 1), V.int r])) = G at hA2 hC2 hk2 ⊢
    refine HX.cut_ (fun σ' H' => ∃ cell : Int, σ' = [some (V.ref a), some (V.int m), none, some (V.int t), some (V.int cell), none] ∧ Kept a H H' ∧ H' a = some (.lst [V.ref c, V.int (t + 1), V.int r]) ∧ H' c = some (.lst (ns.map V.int))) ?_ ?_
    · fail "hr"
      refine HX.ixL_ (SqL.of hA2) rfl ?_
      fail "hr"
      intro e he
      refine HX.ne_nil_ (SqL.of (by rw [upd_ne (ne_of_none hC2 he)]; exact hC2)) (SqL.of upd_same) ?_
      fail "hr"
      have hA3 : (upd G e (.lst [])) a = some (.lst [V.ref c, V.int (t + 1), V.int r]) := by rw [upd_ne (ne_of_none hA2 he)]; exact hA2
      have hC3 : (upd G e (.lst [])) c = some (.lst (ns.map V.int)) := by rw [upd_ne (ne_of_none hC2 he)]; exact hC2
      have hk3 : Kept a H (upd G e (.lst [])) := kept_new hk2 he
      generalize (upd G e (.lst [])) = G3 at hA3 hC3 hk3 ⊢
      cases hns : ns with
      | nil =>
        refine HX.iteF_ rfl ?_
        fail "hr"
        exact ⟨_, rfl, hk3, hA3, by rw [← hns]; exact hC3⟩
      | cons x xs =>
        refine HX.iteT_ rfl ?_
        rw [hns] at hC3
        fail "hr"
        refine HX.ixL_ (SqL.of hA3) rfl ?_
        fail "hr"
        refine HX.ixL_ (SqL.of hA3) rfl ?_
        fail "hr"
        refine HX.len_l_ (SqL.of hC3) ?_
        rw [List.length_map]
        refine HX.mod_ (by rw [List.length_cons]; omega) fun z _ hz0 hz1 => ?_
        obtain ⟨v, hv⟩ := HX.at_int hz0 hz1
        refine HX.ixL_ (SqL.of hC3) hv ?_
        fail "hr"
        exact ⟨_, rfl, hk3, hA3, hC3⟩
    · rintro σ' H' ⟨cell, rfl, hk, hA', hC'⟩
      have hat' : ∀ H2 r2, Kept a H' H2 → H2 a = some (.lst [V.ref c, V.int (t + 1), V.int r2]) → Hat H2 a c ns (n + 1) := fun H2 r2 k2 e2 => ⟨⟨t + 1, r2, e2, by omega, by omega⟩, hca, k2 _ _ hca hC', hle⟩
      refine HX.cut_ (fun σ2 H2 => σ2 = [some (V.ref a), some (V.int m), none, some (V.int t), some (V.int cell), none] ∧ H2 = H') ?_ ?_
      · fail "hr"
        refine HX.ixL_ (SqL.of hA') rfl ?_
        fail "hr"
        refine HX.len_l_ (SqL.of hC') ?_
        fail "hr"
        refine HX.ited_ (fun h1 => ?_) (fun h1 => ?_)
        · fail "hr"
          refine HX.ited_ (fun h2 => ?_) (fun h2 => ?_)
          · fail "hr"
            refine HX.setL_ (j := 2) hA' rfl ?_
            fail "hr"
            intro d _ hd0 hd1
            exact q d _ hd0 hd1 (kept_upd hk) (hat' _ _ (kept_upd (Kept.refl _ _)) upd_same)
          · fail "hr"
            exact ⟨rfl, rfl⟩
        · fail "hr"
          exact ⟨rfl, rfl⟩
      · rintro σ2 H2 ⟨rfl, rfl⟩
        fail "hr"
        intro z _ hz0 hz1
        fail "hr"
        intro y _ hy0 hy1
        fail "hr"
        have b1 := prod2_bd (x := y) (y := 2 * t + 4271) (m := 2147483647) (n := 300000) (by omega) (by omega)
        have b2 := prod2_bd (x := 58271 * t) (y := t) (m := 58271 * 100000) (n := 100000) (by omega) (by omega)
        fail "hr"
        intro x _ hx0 hx1
        fail "hr"
        intro d _ hd0 hd1
        exact q d _ hd0 hd1 hk (hat' _ _ (Kept.refl _ _) hA')
theorem ok__law_sip (T : Tx P K mg) : FnOk P w K mg base CX0 1 T.f__law_sip T.fd__law_sip ["well", "many"] (HD.lift K HD.spd_lot) := (okV__law_sip T).imp HD.lot_bridge
local macro_rules | `(tactic| fail "du") => `(tactic| ((with_reducible refine HD.use_lot ?n ?m ?_); (case n => omega); (case m => constructor <;> omega)))
theorem ok__law_pick (T : Tx P K mg) : FnOk P w K mg base CX0 2 T.f__law_pick T.fd__law_pick ["well", "some"] (HD.lift K HD.spd_one) := by
  refine T.F__law_pick.ok sc__law_pick (fun vs H Q E h => ?_) (fun cdv A outer s H vs Q E hr h => ?_)
  · obtain ⟨cx, nn, args, Qd, Ed, hc, hsp⟩ := h
    obtain ⟨d, xs, rfl, e, hn, hl, q⟩ := hsp
    exact hc.ra.len
  obtain ⟨cx, nn, args, Qd, Ed, hc, hsp⟩ := h
  obtain ⟨d, xs, rfl, e, hn, hl, q⟩ := hsp
  refine ⟨_, (pss_one (ps_ret (pe_ix (ix_K (K := K)) (pv 1) (pe_call (ok__law_sip T) (hr.mono (by decide)) (by rfl) T.g__law_sip T.F__law_sip.kp T.b__law_sip .nil pass0 (pa_cons (pv 0) (pa_cons (pe_callB (call_lenK (K := K)) (by rfl) T.z_len (by decide +kernel) (pa_cons (pv 1) pa_nil)) pa_nil))) (fun _ _ => rfl)))), HD.enter (ρ := [HD.S.v (.hat : HD.D), HD.S.v (d : HD.D)]) hc rfl ?_⟩
  clear hc

  fail "dr"
  refine HD.len_ (xs := xs) e ?_
  fail "dr"
  intro z h0 h1
  obtain ⟨v, hv, hm⟩ := HD.atD_some h0 h1
  fail "dr"
  refine HD.ix_ (xs := xs) e hv ?_
  fail "dr"
  exact q v hm
/-- the row of a number -/
def rowAt (p m : Nat) : List Bool := (List.range p).map fun a => m.testBit (p - 1 - a)
def rowsL (p : Nat) : List (List Bool) := (List.range (2 ^ p)).map (rowAt p)
theorem rowAt_len (p m : Nat) : (rowAt p m).length = p := by rw [rowAt, List.length_map, List.length_range]
theorem bit_int {x k : Nat} : ((x / 2 ^ k % 2 : Nat) : Int) = bi (x.testBit k) := by
  rw [Nat.testBit_eq_decide_div_mod_eq]
  rcases Nat.mod_two_eq_zero_or_one (x / 2 ^ k) with h | h <;> rw [h] <;> rfl
theorem pow6 {p : Nat} (h : p ≤ 6) : 2 ^ p ≤ 64 := Nat.le_trans (Nat.pow_le_pow_right (by decide) h) (by decide)
def atD (p m : Nat) : HD.D → HD.D
  | .int a => bitD (m.testBit (p - 1 - a.toNat))
  | _ => .non
def rowOf (p : Nat) : HD.D → HD.D
  | .int m => rowD (rowAt p m.toNat)
  | _ => .non
theorem map_rngN {f : HD.D → HD.D} {g : Nat → HD.D} (h : ∀ i : Nat, f (.int (i : Int)) = g i) (m : Nat) : (HBt.rngN m).map f = (List.range m).map g := by
  unfold HBt.rngN
  rw [List.map_map]
  exact List.map_congr_left fun i _ => h i
def spd__law_rows (ds : List HD.D) (n : Nat) (Q : HD.I → Nat → Prop) (_ : HD.XD) : Prop := ∃ (p : Nat), ds = [.int (p : Int)] ∧ (p ≤ 6) ∧ Q (.o (.lst ((rowsL p).map rowD))) n
theorem use__law_rows {p : Nat} {n : Nat} {Q : HD.I → Nat → Prop} {E : HD.XD} (h : p ≤ 6) (q : Q (.o (.lst ((rowsL p).map rowD))) n) : spd__law_rows [.int (p : Int)] n Q E := ⟨p, rfl, h, q⟩
theorem ok__law_rows (T : Tx P K mg) : FnOk P w K mg base CX0 1 T.f__law_rows T.fd__law_rows ["places"] (HD.lift K spd__law_rows) := by
  refine T.F__law_rows.ok sc__law_rows (fun vs H Q E h => ?_) (fun cdv A outer s H vs Q E hr h => ?_)
  · obtain ⟨cx, nn, args, Qd, Ed, hc, hsp⟩ := h
    obtain ⟨p, rfl, h, q⟩ := hsp
    exact hc.ra.len
  obtain ⟨cx, nn, args, Qd, Ed, hc, hsp⟩ := h
  obtain ⟨p, rfl, h, q⟩ := hsp
  refine ⟨_, (pss_one (ps_ret (pe_lc (own := [("number", 2)]) (g := gName 2) (tt := tYes) (by rfl) sc__law_rows.nd (pi_range1 (by rfl) T.z_range (pa_cons (pe_op op_shl pe_int (pv 0)) pa_nil)) (blkOk_by (own := [("number", 2)]) (N := n__law_rows) (sc := defScope s__law_rows) (by decide +kernel)) (fun _ _ _ _ _ => (pg_name (i := 2) sc__law_rows.nd rfl (by first | exact .inl rfl | exact .inr rfl))) (fun _ _ _ _ _ => pts_nil) (fun _ _ _ _ _ => (pe_callTy (call_tupleK (K := K)) (by rfl) T.z_tuple (by decide +kernel) (pa_cons (pe_lc (own := [("at", 1)]) (g := gName 1) (tt := tYes) (by rfl) sc__law_rows.nd (pi_range1 (by rfl) T.z_range (pa_cons (pv 0) pa_nil)) (blkOk_by (own := [("at", 1)]) (by kernel_rfl)) (fun _ _ _ _ _ => (pg_name (i := 1) sc__law_rows.nd rfl (by first | exact .inl rfl | exact .inr rfl))) (fun _ _ _ _ _ => pts_nil) (fun _ _ _ _ _ => (pe_op op_and (pe_op op_shr (pv 2) (pe_op op_sub (pe_op op_sub (pv 0) pe_int) (pv 1))) pe_int))) pa_nil)))))), HD.enter (ρ := [HD.S.v (.int (p : Int) : HD.D), HD.S.un, HD.S.un]) hc rfl ?_⟩
  clear hc

  have h6 := pow6 h
  fail "dr"
  generalize hN : 2 ^ p = N at h6 ⊢
  fail "dr"
  rw [HBt.rngN_eq]
  refine HD.CpD.mapD (xs := HBt.rngN N) (rowOf p) (by rw [HBt.rngN_len]; omega) (fun y hy ys => ?_) ?_
  · obtain ⟨m, hm, rfl⟩ := HBt.rngN_mem hy
    fail "dr"
    rw [HBt.rngN_eq]
    refine HD.CpD.mapD (xs := HBt.rngN p) (atD p m) (by rw [HBt.rngN_len]; omega) (fun z hz zs => ?_) ?_
    · obtain ⟨a, ha, rfl⟩ := HBt.rngN_mem hz
      fail "dr"
      refine ⟨?_, rfl, rfl⟩
      have e : ((p : Int) - 1 - (a : Int)).toNat = p - 1 - a := by omega
      show HD.D.int _ = HD.D.int (bi (m.testBit (p - 1 - (a : Int).toNat)))
      rw [e, PyProof.Rows.bitAnd_m1, Int.toNat_natCast, ← bit_int]
      push_cast
      rfl
    · fail "dr"
      refine ⟨?_, rfl, rfl⟩
      show HD.D.tup _ = rowD (rowAt p (m : Int).toNat)
      rw [map_rngN (g := fun a => bitD (m.testBit (p - 1 - a))) (fun a => by show bitD (m.testBit (p - 1 - (a : Int).toNat)) = _; rw [Int.toNat_natCast]), Int.toNat_natCast, rowD, rowAt, List.map_map]
      rfl
  · rw [map_rngN (g := fun m => rowD (rowAt p m)) (fun m => by show rowD (rowAt p (m : Int).toNat) = _; rw [Int.toNat_natCast])]
    rw [rowsL, List.map_map, hN] at q
    exact q
local macro_rules | `(tactic| fail "du") => `(tactic| ((with_reducible refine' use__law_rows ?h ?_); (case h => omega)))
/-- the places of a row's ones -/
def lotOf (r : List Bool) : List Nat := (List.range r.length).filter fun a => r.getD a false
def lotD (r : List Bool) : HD.D := .tup (HBt.natsD (lotOf r))
def lotsD (p : Nat) : List HD.D := (rowsL p).map lotD
def adF : List HD.D → List HD.D
  | [] => []
  | x :: xs => .tup [x, .int 0] :: .tup [x, .int 1] :: adF xs
theorem adF_append : ∀ xs ys : List HD.D, adF (xs ++ ys) = adF xs ++ adF ys
  | [], _ => rfl
  | x :: xs, ys => by rw [List.cons_append, adF, adF, adF_append xs ys]; rfl
theorem adF_len : ∀ xs : List HD.D, (adF xs).length = 2 * xs.length
  | [] => rfl
  | x :: xs => by rw [adF, List.length_cons, List.length_cons, adF_len xs, List.length_cons]; omega
theorem adF_mem : ∀ {xs : List HD.D} {d : HD.D}, d ∈ adF xs → ∃ x ∈ xs, ∃ c : Bool, d = .tup [x, bitD c]
  | [], _, h => by cases h
  | x :: xs, d, h => by
    rcases List.mem_cons.mp h with rfl | h
    · exact ⟨x, List.mem_cons_self .., false, rfl⟩
    rcases List.mem_cons.mp h with rfl | h
    · exact ⟨x, List.mem_cons_self .., true, rfl⟩
    obtain ⟨y, hy, c, e⟩ := adF_mem h
    exact ⟨y, List.mem_cons_of_mem _ hy, c, e⟩
/-- all adders, as they are told -/
def adL (p : Nat) : List HD.D := adF (HY.sortD (lotsD p))
theorem lotOf_nil (p : Nat) : lotOf (rowAt p 0) = [] := by
  unfold lotOf
  refine List.filter_eq_nil_iff.mpr fun a ha => ?_
  rw [rowAt, List.getD_eq_getElem?_getD, List.getElem?_map]
  cases (List.range p)[a]? <;> simp
theorem natsD_pys (l : List Nat) : HD.D.pys (HBt.natsD l) = l.map fun (i : Nat) => PyData.int (i : Int) := by
  rw [HY.pys_map, HBt.natsD, List.map_map]
  refine List.map_congr_left fun i _ => ?_
  show HD.D.py (.int (i : Int)) = _
  rw [HD.D.py]
theorem alike_ints : ∀ l m : List Nat, PySem.W.alikeAll (l.map fun (i : Nat) => PyData.int (i : Int)) (m.map fun (i : Nat) => PyData.int (i : Int)) = true
  | [], _ => by simp [PySem.W.alikeAll]
  | _ :: _, [] => by simp [PySem.W.alikeAll]
  | x :: l, y :: m => by
    rw [List.map_cons, List.map_cons, PySem.W.alikeAll, alike_ints l m]
    simp [PySem.W.alike]
theorem lotD_py (r : List Bool) : (lotD r).py = .tuple ((lotOf r).map fun (i : Nat) => PyData.int (i : Int)) := by
  unfold lotD
  rw [HD.D.py, natsD_pys]
theorem pys_mem {xs : List HD.D} {d : PyData} (h : d ∈ HD.D.pys xs) : ∃ x ∈ xs, d = x.py := by
  rw [HY.pys_map] at h
  obtain ⟨x, hx, rfl⟩ := List.mem_map.mp h
  exact ⟨x, hx, rfl⟩
theorem lots_sort (p : Nat) : HD.D.dats (lotsD p) = true ∧ PySem.W.AllAlike (HD.D.pys (lotsD p)) ∧ PySem.W.FirstE (HD.D.pys (lotsD p)) ∧ ∀ d ∈ HD.D.pys (lotsD p), d.depth ≤ 60 := by
  have mem : ∀ d ∈ HD.D.pys (lotsD p), ∃ r : List Bool, d = .tuple ((lotOf r).map fun (i : Nat) => PyData.int (i : Int)) := fun d hd => by
    obtain ⟨x, hx, rfl⟩ := pys_mem hd
    obtain ⟨r, _, rfl⟩ := List.mem_map.mp hx
    exact ⟨r, lotD_py r⟩
  refine ⟨HS2.dats_of fun x hx => ?_, fun d hd e he => ?_, ⟨?_, fun d hd => ?_⟩, fun d hd => ?_⟩
  · obtain ⟨r, _, rfl⟩ := List.mem_map.mp hx
    unfold lotD
    rw [HBt.natsD_ints]
    exact (HS2.nob_ok 1 _ (HS2.nob_intsT _)).1
  · obtain ⟨r, rfl⟩ := mem d hd
    obtain ⟨s, rfl⟩ := mem e he
    rw [PySem.W.alike]
    exact alike_ints _ _
  · have hp : 2 ^ p = 2 ^ p - 1 + 1 := by have := Nat.two_pow_pos p; omega
    rw [lotsD, rowsL, hp, List.range_succ_eq_map, List.map_cons, List.map_cons, HD.D.pys, lotD_py, lotOf_nil]
    exact ⟨_, rfl⟩
  · obtain ⟨r, rfl⟩ := mem d hd
    exact ⟨_, rfl⟩
  · obtain ⟨x, hx, rfl⟩ := pys_mem hd
    obtain ⟨r, _, rfl⟩ := List.mem_map.mp hx
    unfold lotD
    rw [HBt.natsD_ints]
    have := (HS2.nob_ok 1 _ (HS2.nob_intsT (k := 0) ((lotOf r).map fun (i : Nat) => (i : Int)))).2.2
    omega
theorem rowsL_len (p : Nat) : (rowsL p).length = 2 ^ p := by rw [rowsL, List.length_map, List.length_range]
theorem row_ix {r : List Bool} {a : Nat} (h : a < r.length) : atI (r.map bitD) (a : Int) = some (bitD (r.getD a false)) := by
  refine atI_nat ?_
  rw [List.getElem?_map, List.getD_eq_getElem?_getD, List.getElem?_eq_getElem h]
  rfl
theorem bi_eq1 (b : Bool) : decide (bi b = 1) = b := by cases b <;> rfl
def selP (r : List Bool) : HD.D → Bool
  | .int a => r.getD a.toNat false
  | _ => false
def lotQ : HD.D → HD.D
  | .tup xs => .tup (HBt.natsD ((List.range xs.length).filter fun a => match xs[a]? with | some (.int i) => decide (i = 1) | _ => false))
  | _ => .non
theorem lotQ_row (r : List Bool) : lotQ (rowD r) = lotD r := by
  rw [rowD, lotQ, lotD, lotOf, List.length_map]
  congr 2
  refine List.filter_congr fun a ha => ?_
  have ha := List.mem_range.mp ha
  rw [List.getElem?_map, List.getD_eq_getElem?_getD, List.getElem?_eq_getElem ha]
  exact bi_eq1 _
def spd__law_adders (ds : List HD.D) (n : Nat) (Q : HD.I → Nat → Prop) (_ : HD.XD) : Prop := ∃ (p : Nat), ds = [.int (p : Int)] ∧ (p ≤ 6) ∧ Q (.o (.lst (adL p))) n
theorem use__law_adders {p : Nat} {n : Nat} {Q : HD.I → Nat → Prop} {E : HD.XD} (h : p ≤ 6) (q : Q (.o (.lst (adL p))) n) : spd__law_adders [.int (p : Int)] n Q E := ⟨p, rfl, h, q⟩
theorem ok__law_adders (T : Tx P K mg) : FnOk P w K mg base CX0 2 T.f__law_adders T.fd__law_adders ["places"] (HD.lift K spd__law_adders) := by
  refine T.F__law_adders.ok sc__law_adders (fun vs H Q E h => ?_) (fun cdv A outer s H vs Q E hr h => ?_)
  · obtain ⟨cx, nn, args, Qd, Ed, hc, hsp⟩ := h
    obtain ⟨p, rfl, h, q⟩ := hsp
    exact hc.ra.len
  obtain ⟨cx, nn, args, Qd, Ed, hc, hsp⟩ := h
  obtain ⟨p, rfl, h, q⟩ := hsp
  refine ⟨_, (pss_cons (ps_set (i := 3) sc__law_adders.nd rfl (by first | exact .inl rfl | exact .inr rfl) (pe_callB (HZ.cr_sortD (K := K) hr.units) (by rfl) T.z_sorted (by decide +kernel) (pa_cons (pe_lc (own := [("row", 2)]) (g := gName 2) (tt := tYes) (by rfl) sc__law_adders.nd (pi_listK (K := K) (pe_call (ok__law_rows T) (hr.mono (by decide)) (by rfl) T.g__law_rows T.F__law_rows.kp T.b__law_rows .nil pass0 (pa_cons (pv 0) pa_nil))) (blkOk_by (own := [("row", 2)]) (N := n__law_adders) (sc := defScope s__law_adders) (by decide +kernel)) (fun _ _ _ _ _ => (pg_name (i := 2) sc__law_adders.nd rfl (by first | exact .inl rfl | exact .inr rfl))) (fun _ _ _ _ _ => pts_nil) (fun _ _ _ _ _ => (pe_callTy (call_tupleK (K := K)) (by rfl) T.z_tuple (by decide +kernel) (pa_cons (pe_lc (own := [("at", 1)]) (g := gName 1) (by rfl) sc__law_adders.nd (pi_range1 (by rfl) T.z_range (pa_cons (pv 0) pa_nil)) (blkOk_by (own := [("at", 1)]) (by kernel_rfl)) (fun _ _ _ _ _ => (pg_name (i := 1) sc__law_adders.nd rfl (by first | exact .inl rfl | exact .inr rfl))) (fun _ _ _ _ _ => (pts_one (pt_cmpR (op_eqK (K := K) hr.units) (pe_ix (ix_K (K := K)) (pv 2) (pv 1) (fun _ _ => rfl)) pe_int (nomark _)))) (fun _ _ _ _ _ => (pv 1))) pa_nil)))) pa_nil)))
      (pss_cons (ps_set (i := 4) sc__law_adders.nd rfl (by first | exact .inl rfl | exact .inr rfl) (pe_lst pa_nil))
      (pss_cons (ps_for PassesOwn.never (by rfl) (pi_listK (K := K) (pv 3)) (pg_name (i := 5) sc__law_adders.nd rfl (by first | exact .inl rfl | exact .inr rfl)) (pss_one (ps_expr (HD.pe_bmK (K := K) PySem.F.plainAttrs_list PySem.F.slot_list_extend PySem.F.type_list_extend mt_extend (pv 4) (pa_cons (pe_lst (pa_cons (pe_tup (pa_cons (pv 5) (pa_cons pe_int pa_nil))) (pa_cons (pe_tup (pa_cons (pv 5) (pa_cons pe_int pa_nil))) pa_nil))) pa_nil)))))
      (pss_one (ps_ret (pv 4)))))), HD.enter (ρ := [HD.S.v (.int (p : Int) : HD.D), HD.S.un, HD.S.un, HD.S.un, HD.S.un, HD.S.un]) hc rfl ?_⟩
  clear hc

  have h6 := pow6 h
  fail "dr"
  refine HD.CpD.mapD (xs := (rowsL p).map rowD) lotQ (by rw [List.length_map, rowsL_len]; omega) (fun y hy ys => ?_) ?_
  · obtain ⟨r, hr, rfl⟩ := List.mem_map.mp hy
    have hl : r.length = p := by obtain ⟨m, _, rfl⟩ := List.mem_map.mp hr; exact rowAt_len p m
    fail "dr"
    rw [HBt.rngN_eq]
    refine HD.CpD.filD (xs := HBt.rngN p) (selP r) id (by rw [HBt.rngN_len]; omega) (fun z hz zs => ?_) ?_
    · obtain ⟨a, ha, rfl⟩ := HBt.rngN_mem hz
      fail "dr"
      refine HD.ix_ (xs := r.map bitD) rfl (row_ix (by omega)) ?_
      fail "dr"
      rw [bi_eq1]
      refine ⟨by show _ = r.getD (a : Int).toNat false; rw [Int.toNat_natCast], ?_⟩
      split
      · fail "dr"
        exact ⟨rfl, rfl, rfl⟩
      · exact ⟨rfl, rfl⟩
    · rw [List.map_id, HBt.rngN, HBt.filter_map_int (p := fun a => r.getD a false) (fun a => by show r.getD (a : Int).toNat false = _; rw [Int.toNat_natCast])]
      fail "dr"
      refine ⟨?_, rfl, rfl⟩
      rw [lotQ_row, lotD, lotOf, hl]
      rfl
  · rw [List.map_map, List.map_congr_left (f := lotQ ∘ rowD) (g := lotD) (fun r _ => lotQ_row r)]
    obtain ⟨s1, s2, s3, s4⟩ := lots_sort p
    fail "dr"
    refine HY.sortD_ (xs := lotsD p) rfl s1 s2 (.inr s3) s4 ?_
    have hlen : (HY.sortD (lotsD p)).length = 2 ^ p := by rw [(HY.sortD_perm _).length_eq, lotsD, List.length_map, rowsL_len]
    fail "dr"
    unfold adL at q
    generalize HY.sortD (lotsD p) = L at q hlen ⊢
    refine HD.ForD.inv (fun i ρ m => m = nn ∧ ∃ (x2 x3 x5 x1 : HD.S), ρ = [.v (.int (p : Int)), x1, x2, x3, .ow (.lst (adF (L.take i))), x5]) ⟨rfl, _, _, _, _, rfl⟩ (fun i x ρ m hx hi hp => ?_) (fun ρ m hp => ?_)
    · obtain ⟨rfl, x2, x3, x5, x1, rfl⟩ := hp
      fail "dr"
      refine HD.extend_ (xs := adF (L.take i)) (zs := [.tup [x, .int 0], .tup [x, .int 1]]) rfl rfl rfl (by rw [adF_len, List.length_take]; simp; omega) ?_
      fail "dr"
      have e : adF (L.take (i + 1)) = adF (L.take i) ++ [.tup [x, .int 0], .tup [x, .int 1]] := by rw [List.take_add_one, hx, adF_append]; rfl
      rw [e]
      exact ⟨rfl, _, _, _, _, rfl⟩
    · obtain ⟨rfl, x2, x3, x5, x1, rfl⟩ := hp
      rw [List.take_length]
      fail "dr"
      exact q
local macro_rules | `(tactic| fail "du") => `(tactic| ((with_reducible refine' use__law_adders ?h ?_); (case h => omega)))
/-- the outcome of an adder at a row -/
def gv (l : List Nat) (c : Bool) (r : List Bool) : Nat := (c.toNat + (l.map fun a => (r.getD a false).toNat).sum) % 2
theorem gv_lt (l : List Nat) (c : Bool) (r : List Bool) : gv l c r < 2 := Nat.mod_lt _ (by decide)
def adD (l : List Nat) (c : Bool) : HD.D := .tup [.tup (HBt.natsD l), bitD c]
def rowGet (r : List Bool) : HD.D → HD.D
  | .int a => bitD (r.getD a.toNat false)
  | _ => .non
theorem sum_toNat : ∀ l : List Nat, ((l.map fun (i : Nat) => (i : Int)).sum) = ((l.sum : Nat) : Int)
  | [] => rfl
  | x :: l => by rw [List.map_cons, List.sum_cons, List.sum_cons, sum_toNat l]; push_cast; rfl
def spd__law_gives (ds : List HD.D) (n : Nat) (Q : HD.I → Nat → Prop) (_ : HD.XD) : Prop := ∃ (l : List Nat) (c : Bool) (r : List Bool), ds = [.tup [.tup (HBt.natsD l), bitD c], .tup (r.map bitD)] ∧ ((∀ a ∈ l, a < r.length) ∧ l.length ≤ 100) ∧ Q (.v (.int (gv l c r : Int))) n
theorem use__law_gives {l : List Nat} {c : Bool} {r : List Bool} {n : Nat} {Q : HD.I → Nat → Prop} {E : HD.XD} (h : (∀ a ∈ l, a < r.length) ∧ l.length ≤ 100) (q : Q (.v (.int (gv l c r : Int))) n) : spd__law_gives [.tup [.tup (HBt.natsD l), bitD c], .tup (r.map bitD)] n Q E := ⟨l, c, r, rfl, h, q⟩
theorem ok__law_gives (T : Tx P K mg) : FnOk P w K mg base CX0 1 T.f__law_gives T.fd__law_gives ["adder", "row"] (HD.lift K spd__law_gives) := by
  refine T.F__law_gives.ok sc__law_gives (fun vs H Q E h => ?_) (fun cdv A outer s H vs Q E hr h => ?_)
  · obtain ⟨cx, nn, args, Qd, Ed, hc, hsp⟩ := h
    obtain ⟨l, c, r, rfl, h, q⟩ := hsp
    exact hc.ra.len
  obtain ⟨cx, nn, args, Qd, Ed, hc, hsp⟩ := h
  obtain ⟨l, c, r, rfl, h, q⟩ := hsp
  refine ⟨_, (pss_one (ps_ret (pe_op op_modU (pe_callTy call_intU (by rfl) T.z_int (by decide +kernel) (pa_cons (pe_op (op_addK (K := K)) (pe_ix (ix_K (K := K)) (pv 0) pe_int (fun _ _ => rfl)) (pe_callB (cr_sumK (K := K) (by rfl)) (by rfl) T.z_sum (by decide +kernel) (pa_cons (pe_lc (own := [("place", 2)]) (g := gName 2) (tt := tYes) (by rfl) sc__law_gives.nd (HS2.pi_seqU (K := K) (pe_ix (ix_K (K := K)) (pv 0) pe_int (fun _ _ => rfl))) (blkOk_by (own := [("place", 2)]) (N := n__law_gives) (sc := defScope s__law_gives) (by decide +kernel)) (fun _ _ _ _ _ => (pg_name (i := 2) sc__law_gives.nd rfl (by first | exact .inl rfl | exact .inr rfl))) (fun _ _ _ _ _ => pts_nil) (fun _ _ _ _ _ => (pe_ix (ix_K (K := K)) (pv 1) (pv 2) (fun _ _ => rfl)))) pa_nil))) pa_nil)) pe_int))), HD.enter (ρ := [HD.S.v (.tup [.tup (HBt.natsD l), bitD c] : HD.D), HD.S.v (.tup (r.map bitD) : HD.D), HD.S.un]) hc rfl ?_⟩
  clear hc

  obtain ⟨h1, h2⟩ := h
  fail "dr"
  refine HD.CpD.mapD (xs := HBt.natsD l) (rowGet r) (by rw [HBt.natsD, List.length_map]; omega) (fun y hy ys => ?_) ?_
  · obtain ⟨a, ha, rfl⟩ := List.mem_map.mp hy
    fail "dr"
    refine HD.ix_ (xs := r.map bitD) rfl (row_ix (h1 a ha)) ?_
    fail "dr"
    refine ⟨?_, rfl, rfl⟩
    show bitD (r.getD a false) = bitD (r.getD (a : Int).toNat false)
    rw [Int.toNat_natCast]
  · have e : (HBt.natsD l).map (rowGet r) = ((l.map fun a => (r.getD a false).toNat).map fun (i : Nat) => (i : Int)).map HD.D.int := by
      rw [HBt.natsD, List.map_map, List.map_map, List.map_map]
      refine List.map_congr_left fun a _ => ?_
      show bitD (r.getD (a : Int).toNat false) = _
      rw [Int.toNat_natCast]
      rfl
    rw [e]
    fail "dr"
    refine HD.sum_ (ns := (l.map fun a => (r.getD a false).toNat).map fun (i : Nat) => (i : Int)) rfl ?_
    rw [sum_toNat]
    fail "dr"
    intro z hz z0 z1
    have e2 : z = ((gv l c r : Nat) : Int) := by rw [← hz, gv]; push_cast; rfl
    subst e2
    fail "dr"
    exact q
local macro_rules | `(tactic| fail "du") => `(tactic| ((with_reducible refine' use__law_gives ?h ?_); (case h => exact ⟨by assumption, by assumption⟩)))
/-- cases as they are drawn -/
structure CasesOk (p : Nat) (cs : List (List Bool × Bool)) : Prop where
  len : ∀ c ∈ cs, c.1.length = p
  once : (cs.map (·.1)).Nodup
theorem rowAt_inj {p m n : Nat} (hm : m < 2 ^ p) (hn : n < 2 ^ p) (h : rowAt p m = rowAt p n) : m = n := by
  refine Nat.eq_of_testBit_eq fun i => ?_
  rcases Nat.lt_or_ge i p with z | z
  · have e := congrArg (fun r => r[p - 1 - i]?) h
    simp only [rowAt, List.getElem?_map] at e
    rw [List.getElem?_range (by omega)] at e
    have e2 := Option.some.inj e
    dsimp only at e2
    rw [show p - 1 - (p - 1 - i) = i by omega] at e2
    exact e2
  · rw [Nat.testBit_lt_two_pow (Nat.lt_of_lt_of_le hm (Nat.pow_le_pow_right (by decide) z)), Nat.testBit_lt_two_pow (Nat.lt_of_lt_of_le hn (Nat.pow_le_pow_right (by decide) z))]
theorem rowsL_once (p : Nat) : (rowsL p).Nodup := by
  refine List.pairwise_map.mpr (List.Pairwise.imp_of_mem (fun {a b} ha hb hab he => ?_) List.nodup_range)
  exact hab (rowAt_inj (List.mem_range.mp ha) (List.mem_range.mp hb) he)
theorem rowsL_mem {p : Nat} {r : List Bool} (h : r ∈ rowsL p) : r.length = p := by obtain ⟨m, _, rfl⟩ := List.mem_map.mp h; exact rowAt_len p m
theorem adL_mem {p : Nat} {d : HD.D} (h : d ∈ adL p) : ∃ (l : List Nat) (c : Bool), d = adD l c ∧ (∀ a ∈ l, a < p) ∧ l.length ≤ p := by
  obtain ⟨x, hx, c, rfl⟩ := adF_mem h
  obtain ⟨r, hr, rfl⟩ := List.mem_map.mp ((HY.sortD_perm _).mem_iff.mp hx)
  have hl := rowsL_mem hr
  refine ⟨lotOf r, c, rfl, fun a ha => ?_, ?_⟩
  · have := List.mem_range.mp (List.mem_filter.mp ha).1; omega
  · have := List.length_filter_le (fun a => r.getD a false) (List.range r.length)
    rw [List.length_range] at this
    unfold lotOf
    omega
theorem adL_len (p : Nat) : (adL p).length = 2 * 2 ^ p := by rw [adL, adF_len, (HY.sortD_perm _).length_eq, lotsD, List.length_map, rowsL_len]
theorem two_bits {d : Int} (h0 : 0 ≤ d) (h1 : d < 2) : ∃ b : Bool, d = bi b := by
  have : d = 0 ∨ d = 1 := by omega
  rcases this with rfl | rfl
  · exact ⟨false, rfl⟩
  · exact ⟨true, rfl⟩
theorem map_erase {α β : Type} (f : α → β) (l : List α) (j : Nat) : (l.eraseIdx j).map f = (l.map f).eraseIdx j := by
  rw [List.eraseIdx_eq_take_drop_succ, List.eraseIdx_eq_take_drop_succ, List.map_append, List.map_take, List.map_drop]
theorem erase_perm {α : Type} {l : List α} {j : Nat} (h : j < l.length) : ([l[j]] ++ l.eraseIdx j).Perm l := by
  have e : l = l.take j ++ l[j] :: l.drop (j + 1) := by rw [← List.drop_eq_getElem_cons h, List.take_append_drop]
  rw [List.eraseIdx_eq_take_drop_succ]
  exact (List.perm_middle (a := l[j]) (l₁ := l.take j) (l₂ := l.drop (j + 1))).symm.trans (List.Perm.of_eq e.symm)
theorem seq_nat {j n : Nat} (h : j < n) : seqIndex? (j : Int) n = some j := by
  have := seqIndex_at (i := (j : Int)) (n := n) (Int.natCast_nonneg j) (by omega)
  rwa [Int.toNat_natCast] at this
theorem natsD_len (s : List Nat) : (HBt.natsD s).length = s.length := List.length_map ..
/-- an adder as data -/
def addF (a : List Nat × Bool) : List (Str × HD.D) := [("word", .str "adder"), ("parts", .tup [.tup (HBt.natsD a.1), bitD a.2]), ("places", .tup (HBt.natsD a.1)), ("constant", bitD a.2)]
def addI (T : Tx P K mg) (a : List Nat × Bool) : HD.D := .ins T.C_Adder (addF a)
structure AdOk (p : Nat) (a : List Nat × Bool) : Prop where
  up : a.1.Pairwise (· < ·)
  lt : ∀ i ∈ a.1, i < p
  few : a.1.length ≤ p
theorem nats_isI (l : List Nat) : (HBt.natsD l).all isI = true := List.all_eq_true.mpr fun d h => by
  obtain ⟨z, _, rfl⟩ := List.mem_map.mp h
  rfl
theorem nats_ints (l : List Nat) : HBt.natsD l = (l.map fun (i : Nat) => (i : Int)).map HD.D.int := HBt.natsD_ints _
theorem nats_up {l : List Nat} (h : l.Pairwise (· < ·)) : (l.map fun (i : Nat) => (i : Int)).Pairwise (· < ·) := List.pairwise_map.mpr (h.imp fun h => by exact_mod_cast h)
theorem nob_natsL (l : List Nat) : HS2.nob 1 (.lst (HBt.natsD l)) = true := by rw [HBt.natsD_ints]; exact HS2.nob_ints _
def spd_is_bits (ds : List HD.D) (n : Nat) (Q : HD.I → Nat → Prop) (_ : HD.XD) : Prop := ∃ (d : HD.D) (r : List Bool), ds = [d] ∧ (d.seq = some (r.map bitD) ∧ r.length ≤ 1000) ∧ Q (.v (.bl true)) n
theorem use_is_bits {d : HD.D} {r : List Bool} {n : Nat} {Q : HD.I → Nat → Prop} {E : HD.XD} (h : d.seq = some (r.map bitD) ∧ r.length ≤ 1000) (q : Q (.v (.bl true)) n) : spd_is_bits [d] n Q E := ⟨d, r, rfl, h, q⟩
theorem ok_is_bits (T : Tx P K mg) : FnOk P w K mg base CX0 3 T.f_is_bits T.fd_is_bits ["value"] (HD.lift K spd_is_bits) := by
  refine T.F_is_bits.ok sc_is_bits (fun vs H Q E h => ?_) (fun cdv A outer s H vs Q E hr h => ?_)
  · obtain ⟨cx, nn, args, Qd, Ed, hc, hsp⟩ := h
    obtain ⟨d, r, rfl, h, q⟩ := hsp
    exact hc.ra.len
  obtain ⟨cx, nn, args, Qd, Ed, hc, hsp⟩ := h
  obtain ⟨d, r, rfl, h, q⟩ := hsp
  refine ⟨_, (pss_one (ps_ret (pe_and (pe_call (ok_is_row T) (hr.mono (by decide)) (by rfl) T.g_is_row T.F_is_row.kp T.b_is_row .nil pass0 (pa_cons (pv 0) pa_nil)) (pe_one (pe_callB (cr_allK (K := K) (by rfl)) (by rfl) T.z_all (by decide +kernel) (pa_cons (pe_lc (own := [("bit", 1)]) (g := gName 1) (tt := tYes) (by rfl) sc_is_bits.nd (HS2.pi_seqU (K := K) (pv 0)) (blkOk_by (own := [("bit", 1)]) (N := n_is_bits) (sc := defScope s_is_bits) (by decide +kernel)) (fun _ _ _ _ _ => (pg_name (i := 1) sc_is_bits.nd rfl (by first | exact .inl rfl | exact .inr rfl))) (fun _ _ _ _ _ => pts_nil) (fun _ _ _ _ _ => (pe_cmpR (op_inK (K := K)) (pv 1) (pe_tup (pa_cons pe_int (pa_cons pe_int pa_nil))) (by rfl)))) pa_nil)))))), HD.enter (ρ := [HD.S.v (d : HD.D), HD.S.un]) hc rfl ?_⟩
  clear hc

  obtain ⟨h1, h2⟩ := h
  fail "dr"
  refine use_is_row ⟨HS2.seq_tn h1, fun xs e => ?_⟩ ?_
  · rw [h1] at e; cases e
    refine ⟨by rw [List.length_map]; exact h2, fun x hx => ?_⟩
    obtain ⟨b, _, rfl⟩ := List.mem_map.mp hx
    rfl
  rw [h1]
  dsimp only [Option.map]
  rw [bits_isI]
  fail "dr"
  refine HD.CpD.mapD (fun _ => .bl true) (by rw [List.length_map]; omega) (fun x hx ys => ?_) ?_
  · obtain ⟨b, _, rfl⟩ := List.mem_map.mp hx
    fail "dr"
    refine HD.in_ rfl rfl rfl ?_
    have e : HD.inF (bitD b) [.int 0, .int 1] = true := by cases b <;> rfl
    fail "dr"
    refine ⟨congrArg HD.D.bl e, rfl, rfl⟩
  · fail "dr"
    refine HD.all_ (it := .o (.lst ((r.map bitD).map fun _ => .bl true))) (bs := (r.map bitD).map fun _ => true) (by show HD.D.lst _ = _; simp [List.map_map, Function.comp_def]) ?_
    fail "dr"
    rw [show (((r.map bitD).map fun _ => true).all id) = true from by simp]
    exact q
local macro_rules | `(tactic| fail "du") => `(tactic| ((with_reducible refine' use_is_bits ?h ?_); (case h => assumption)))
def spd_need_bits (ds : List HD.D) (n : Nat) (Q : HD.I → Nat → Prop) (_ : HD.XD) : Prop := ∃ (d : HD.D) (r : List Bool) (z : Str), ds = [d, .str z] ∧ (d.seq = some (r.map bitD) ∧ r.length ≤ 1000) ∧ Q (.v .non) n
theorem use_need_bits {d : HD.D} {r : List Bool} {z : Str} {n : Nat} {Q : HD.I → Nat → Prop} {E : HD.XD} (h : d.seq = some (r.map bitD) ∧ r.length ≤ 1000) (q : Q (.v .non) n) : spd_need_bits [d, .str z] n Q E := ⟨d, r, z, rfl, h, q⟩
theorem ok_need_bits (T : Tx P K mg) : FnOk P w K mg base CX0 4 T.f_need_bits T.fd_need_bits ["value", "part"] (HD.lift K spd_need_bits) := by
  refine T.F_need_bits.ok sc_need_bits (fun vs H Q E h => ?_) (fun cdv A outer s H vs Q E hr h => ?_)
  · obtain ⟨cx, nn, args, Qd, Ed, hc, hsp⟩ := h
    obtain ⟨d, r, z, rfl, h, q⟩ := hsp
    exact hc.ra.len
  obtain ⟨cx, nn, args, Qd, Ed, hc, hsp⟩ := h
  obtain ⟨d, r, z, rfl, h, q⟩ := hsp
  refine ⟨_, (pss_one (ps_if (pt_not (pt_val (pe_call (ok_is_bits T) (hr.mono (by decide)) (by rfl) T.g_is_bits T.F_is_bits.kp T.b_is_bits .nil pass0 (pa_cons (pv 0) pa_nil)))) (pss_one ps_never) pss_nil)), HD.enter (ρ := [HD.S.v (d : HD.D), HD.S.v (.str z : HD.D)]) hc rfl ?_⟩
  clear hc

  fail "dr"
  exact q
local macro_rules | `(tactic| fail "du") => `(tactic| ((with_reducible refine' use_need_bits ?h ?_); (case h => assumption)))
def spd_is_adder (T : Tx P K mg) (ds : List HD.D) (n : Nat) (Q : HD.I → Nat → Prop) (_ : HD.XD) : Prop := ∃ (p : Nat) (a : List Nat × Bool), ds = [addI T a] ∧ (AdOk p a ∧ p ≤ 6) ∧ Q (.v (.bl true)) n
theorem ok_is_adder (T : Tx P K mg) : FnOk P w K mg base CX0 3 T.f_is_adder T.fd_is_adder ["value"] (HD.lift K (spd_is_adder T)) := by
  refine T.F_is_adder.ok sc_is_adder (fun vs H Q E h => ?_) (fun cdv A outer s H vs Q E hr h => ?_)
  · obtain ⟨cx, nn, args, Qd, Ed, hc, hsp⟩ := h
    obtain ⟨p, a, rfl, ⟨ha, hp⟩, q⟩ := hsp
    exact hc.ra.len
  obtain ⟨cx, nn, args, Qd, Ed, hc, hsp⟩ := h
  obtain ⟨p, a, rfl, ⟨ha, hp⟩, q⟩ := hsp
  refine ⟨_, (pss_cons (ps_if (PW.pt (pw_or (pt_not (pt_val (pe_callB (call_isiK' (K := K)) (by rfl) T.z_isinstance (by decide +kernel) (pa_cons (pv 0) (pa_cons (pe_glob (v := .ref T.C_Adder) (by rfl) T.g_Adder rfl) pa_nil))))) (pw_or (pt_not (pt_val (pe_call (ok_is_row T) (hr.mono (by decide)) (by rfl) T.g_is_row T.F_is_row.kp T.b_is_row .nil pass0 (pa_cons (HC.pe_fldK (K := K) (pv 0)) pa_nil)))) (pw_or1 (pt_not (pt_val (pe_call (ok_is_within T) (hr.mono (by decide)) (by rfl) T.g_is_within T.F_is_within.kp T.b_is_within .nil pass0 (pa_cons (HC.pe_fldK (K := K) (pv 0)) (pa_cons pe_int (pa_cons pe_int pa_nil)))))))))) (pss_one (ps_ret pe_bl)) pss_nil)
      (pss_one (ps_ret (pe_and (pe_cmpR (op_eqK (K := K) hr.units) (pe_callTy (call_listK (K := K)) (by rfl) T.z_list (by decide +kernel) (pa_cons (HC.pe_fldK (K := K) (pv 0)) pa_nil)) (pe_callB (cr_sortedSet (by rfl)) (by rfl) T.z_sorted (by decide +kernel) (pa_cons (pe_callTy (HQT.call_setA (K := K) (by rfl)) (by rfl) T.z_set (by decide +kernel) (pa_cons (HC.pe_fldK (K := K) (pv 0)) pa_nil)) pa_nil)) (nomark _)) (pe_one (pe_callB (cr_allK (K := K) (by rfl)) (by rfl) T.z_all (by decide +kernel) (pa_cons (pe_lc (own := [("place", 1)]) (g := gName 1) (tt := tYes) (by rfl) sc_is_adder.nd (pi_tupK (K := K) (HC.pe_fldK (K := K) (pv 0))) (blkOk_by (own := [("place", 1)]) (N := n_is_adder) (sc := defScope s_is_adder) (by decide +kernel)) (fun _ _ _ _ _ => (pg_name (i := 1) sc_is_adder.nd rfl (by first | exact .inl rfl | exact .inr rfl))) (fun _ _ _ _ _ => pts_nil) (fun _ _ _ _ _ => (pe_cmpR op_ge (pv 1) pe_int (nomark _)))) pa_nil))))))), HD.enter (ρ := [HD.S.v (addI T a : HD.D), HD.S.un]) hc rfl ?_⟩
  clear hc

  have hf := ha.few
  fail "dr"
  refine use_is_row ⟨rfl, fun xs e => ?_⟩ ?_
  · cases e
    refine ⟨by rw [natsD_len]; omega, fun y hy => ?_⟩
    obtain ⟨z, _, rfl⟩ := List.mem_map.mp hy
    rfl
  rw [show (Option.map (fun xs => xs.all isI) (HD.D.tup (HBt.natsD a.1)).seq == some true) = true from by rw [show (HD.D.tup (HBt.natsD a.1)).seq = some (HBt.natsD a.1) from rfl, Option.map_some, nats_isI]; rfl]
  fail "dr"
  refine use_is_within (bi_bd a.2) ?_
  fail "dr"
  refine ⟨a.1.map fun (i : Nat) => (i : Int), congrArg some (nats_ints a.1), by rw [List.length_map]; omega, fun ms hm1 hm2 hm3 => ?_⟩
  have e2 : ms = a.1.map fun (i : Nat) => (i : Int) := HBt.sorted_unique hm1 (nats_up ha.up) hm2
  subst e2
  fail "dr"
  refine HS2.eqN_ 1 1 (nob_natsL _) (HS2.nob_ints _) (by decide) (by decide) ?_
  rw [show HS2.eqB (HD.I.o (HD.D.lst (HBt.natsD a.1))).val (HD.I.o (.lst ((a.1.map fun (i : Nat) => (i : Int)).map HD.D.int))).val = true from HS2.eqB_true (congrArg HD.D.lst (nats_ints a.1))]
  fail "dr"
  refine HD.CpD.mapD (xs := HBt.natsD a.1) (fun _ => .bl true) (by rw [natsD_len]; omega) (fun y hy ys => ?_) ?_
  · obtain ⟨z, hz, rfl⟩ := List.mem_map.mp hy
    fail "dr"
    exact ⟨congrArg HD.D.bl (decide_eq_true (Int.natCast_nonneg z)), rfl, rfl⟩
  · fail "dr"
    refine HD.all_ (it := .o (.lst ((HBt.natsD a.1).map fun _ => .bl true))) (bs := a.1.map fun _ => true) (by show HD.D.lst _ = _; simp [HBt.natsD, List.map_map, Function.comp_def]) ?_
    rw [show ((a.1.map fun _ => true).all id) = true from by simp]
    fail "dr"
    exact q
theorem use_is_adder {T : Tx P K mg} {p : Nat} {a : List Nat × Bool} {n : Nat} {Q : HD.I → Nat → Prop} {E : HD.XD} (h : AdOk p a ∧ p ≤ 6) (q : Q (.v (.bl true)) n) : spd_is_adder T [addI T a] n Q E := ⟨p, a, rfl, h, q⟩
def spd_need_adder (T : Tx P K mg) (ds : List HD.D) (n : Nat) (Q : HD.I → Nat → Prop) (_ : HD.XD) : Prop := ∃ (p : Nat) (a : List Nat × Bool), ds = [addI T a] ∧ (AdOk p a ∧ p ≤ 6) ∧ Q (.v .non) n
theorem ok_need_adder (T : Tx P K mg) : FnOk P w K mg base CX0 4 T.f_need_adder T.fd_need_adder ["value"] (HD.lift K (spd_need_adder T)) := by
  refine T.F_need_adder.ok sc_need_adder (fun vs H Q E h => ?_) (fun cdv A outer s H vs Q E hr h => ?_)
  · obtain ⟨cx, nn, args, Qd, Ed, hc, hsp⟩ := h
    obtain ⟨p, a, rfl, h, q⟩ := hsp
    exact hc.ra.len
  obtain ⟨cx, nn, args, Qd, Ed, hc, hsp⟩ := h
  obtain ⟨p, a, rfl, h, q⟩ := hsp
  refine ⟨_, (pss_one (ps_if (pt_not (pt_val (pe_call (ok_is_adder T) (hr.mono (by decide)) (by rfl) T.g_is_adder T.F_is_adder.kp T.b_is_adder .nil pass0 (pa_cons (pv 0) pa_nil)))) (pss_one ps_never) pss_nil)), HD.enter (ρ := [HD.S.v (addI T a : HD.D)]) hc rfl ?_⟩
  clear hc

  fail "dr"
  refine use_is_adder h ?_
  fail "dr"
  exact q
theorem use_need_adder {T : Tx P K mg} {p : Nat} {a : List Nat × Bool} {n : Nat} {Q : HD.I → Nat → Prop} {E : HD.XD} (h : AdOk p a ∧ p ≤ 6) (q : Q (.v .non) n) : spd_need_adder T [addI T a] n Q E := ⟨p, a, rfl, h, q⟩
def spd_added (T : Tx P K mg) (ds : List HD.D) (n : Nat) (Q : HD.I → Nat → Prop) (_ : HD.XD) : Prop := ∃ (p : Nat) (a : List Nat × Bool) (r : List Bool), ds = [addI T a, rowD r] ∧ (AdOk p a ∧ p ≤ 6 ∧ r.length = p) ∧ Q (.v (.int (gv a.1 a.2 r : Int))) n
theorem ok_added (T : Tx P K mg) : FnOk P w K mg base CX0 1 T.f_added T.fd_added ["adder", "row"] (HD.lift K (spd_added T)) := by
  refine T.F_added.ok sc_added (fun vs H Q E h => ?_) (fun cdv A outer s H vs Q E hr h => ?_)
  · obtain ⟨cx, nn, args, Qd, Ed, hc, hsp⟩ := h
    obtain ⟨p, a, r, rfl, ⟨ha, hp, hr1⟩, q⟩ := hsp
    exact hc.ra.len
  obtain ⟨cx, nn, args, Qd, Ed, hc, hsp⟩ := h
  obtain ⟨p, a, r, rfl, ⟨ha, hp, hr1⟩, q⟩ := hsp
  refine ⟨_, (pss_one (ps_ret (pe_op op_modU (pe_op (op_addK (K := K)) (HC.pe_fldK (K := K) (pv 0)) (pe_callB (cr_sumK (K := K) (by rfl)) (by rfl) T.z_sum (by decide +kernel) (pa_cons (pe_lc (own := [("place", 2)]) (g := gName 2) (tt := tYes) (by rfl) sc_added.nd (pi_tupK (K := K) (HC.pe_fldK (K := K) (pv 0))) (blkOk_by (own := [("place", 2)]) (N := n_added) (sc := defScope s_added) (by decide +kernel)) (fun _ _ _ _ _ => (pg_name (i := 2) sc_added.nd rfl (by first | exact .inl rfl | exact .inr rfl))) (fun _ _ _ _ _ => pts_nil) (fun _ _ _ _ _ => (pe_ix (ix_K (K := K)) (pv 1) (pv 2) (fun _ _ => rfl)))) pa_nil))) pe_int))), HD.enter (ρ := [HD.S.v (addI T a : HD.D), HD.S.v (rowD r : HD.D), HD.S.un]) hc rfl ?_⟩
  clear hc

  have hf := ha.few
  fail "dr"
  refine HD.CpD.mapD (xs := HBt.natsD a.1) (rowGet r) (by rw [natsD_len]; omega) (fun y hy ys => ?_) ?_
  · obtain ⟨z, hz, rfl⟩ := List.mem_map.mp hy
    fail "dr"
    refine HD.ix_ (xs := r.map bitD) rfl (row_ix (by rw [hr1]; exact ha.lt z hz)) ?_
    fail "dr"
    refine ⟨?_, rfl, rfl⟩
    show bitD (r.getD z false) = bitD (r.getD (z : Int).toNat false)
    rw [Int.toNat_natCast]
  · have e : (HBt.natsD a.1).map (rowGet r) = ((a.1.map fun a => (r.getD a false).toNat).map fun (i : Nat) => (i : Int)).map HD.D.int := by
      rw [HBt.natsD, List.map_map, List.map_map, List.map_map]
      refine List.map_congr_left fun a _ => ?_
      show bitD (r.getD (a : Int).toNat false) = _
      rw [Int.toNat_natCast]
      rfl
    rw [e]
    fail "dr"
    refine HD.sum_ (ns := (a.1.map fun a => (r.getD a false).toNat).map fun (i : Nat) => (i : Int)) rfl ?_
    rw [sum_toNat]
    fail "dr"
    intro z hz z0 z1
    have e2 : z = ((gv a.1 a.2 r : Nat) : Int) := by rw [← hz, gv]; push_cast; rfl
    subst e2
    fail "dr"
    exact q
theorem use_added {T : Tx P K mg} {p : Nat} {a : List Nat × Bool} {r : List Bool} {n : Nat} {Q : HD.I → Nat → Prop} {E : HD.XD} (h : AdOk p a ∧ p ≤ 6 ∧ r.length = p) (q : Q (.v (.int (gv a.1 a.2 r : Int))) n) : spd_added T [addI T a, rowD r] n Q E := ⟨p, a, r, rfl, h, q⟩
def spd_Adder_outcome (T : Tx P K mg) (ds : List HD.D) (n : Nat) (Q : HD.I → Nat → Prop) (_ : HD.XD) : Prop := ∃ (p : Nat) (a : List Nat × Bool) (r : List Bool), ds = [addI T a, rowD r] ∧ (AdOk p a ∧ p ≤ 6 ∧ r.length = p) ∧ Q (.v (.int (gv a.1 a.2 r : Int))) n
theorem ok_Adder_outcome (T : Tx P K mg) : FnOk P w K mg base CX0 5 T.f_Adder_outcome T.fd_Adder_outcome ["self", "row"] (HD.lift K (spd_Adder_outcome T)) := by
  refine T.F_Adder_outcome.ok sc_Adder_outcome (fun vs H Q E h => ?_) (fun cdv A outer s H vs Q E hr h => ?_)
  · obtain ⟨cx, nn, args, Qd, Ed, hc, hsp⟩ := h
    obtain ⟨p, a, r, rfl, ⟨ha, hp, hr1⟩, q⟩ := hsp
    exact hc.ra.len
  obtain ⟨cx, nn, args, Qd, Ed, hc, hsp⟩ := h
  obtain ⟨p, a, r, rfl, ⟨ha, hp, hr1⟩, q⟩ := hsp
  refine ⟨_, (pss_cons (ps_expr (pe_call (ok_need_adder T) (hr.mono (by decide)) (by rfl) T.g_need_adder T.F_need_adder.kp T.b_need_adder .nil pass0 (pa_cons (pv 0) pa_nil)))
      (pss_cons (ps_expr (pe_call (ok_need_bits T) (hr.mono (by decide)) (by rfl) T.g_need_bits T.F_need_bits.kp T.b_need_bits .nil pass0 (pa_cons (pv 1) (pa_cons pe_str pa_nil))))
      (pss_cons (ps_for PassesOwn.never (by rfl) (pi_tupK (K := K) (HC.pe_fldK (K := K) (pv 0))) (pg_name (i := 2) sc_Adder_outcome.nd rfl (by first | exact .inl rfl | exact .inr rfl)) (pss_one (ps_if (pt_cmpR op_ge (pv 2) (pe_callB (call_lenK (K := K)) (by rfl) T.z_len (by decide +kernel) (pa_cons (pv 1) pa_nil)) (nomark _)) (pss_one ps_never) pss_nil)))
      (pss_one (ps_ret (pe_call (ok_added T) (hr.mono (by decide)) (by rfl) T.g_added T.F_added.kp T.b_added .nil pass0 (pa_cons (pv 0) (pa_cons (pv 1) pa_nil)))))))), HD.enter (ρ := [HD.S.v (addI T a : HD.D), HD.S.v (rowD r : HD.D), HD.S.un]) hc rfl ?_⟩
  clear hc

  have hf := ha.few
  fail "dr"
  refine use_need_adder ⟨ha, hp⟩ ?_
  fail "dr"
  refine use_need_bits ⟨rfl, by omega⟩ ?_
  fail "dr"
  refine HD.ForD.inv (fun i ρ m => m = nn ∧ ∃ x2, ρ = [.v (addI T a), .v (rowD r), x2]) ⟨rfl, _, rfl⟩ (fun i x ρ m hx hi hP => ?_) (fun ρ m hP => ?_)
  · obtain ⟨rfl, x2, rfl⟩ := hP
    obtain ⟨z, hz, rfl⟩ := List.mem_map.mp (List.mem_of_getElem? hx)
    have hzl := ha.lt z hz
    fail "dr"
    rw [List.length_map, hr1]
    fail "dr"
    exact ⟨rfl, _, rfl⟩
  · obtain ⟨rfl, x2, rfl⟩ := hP
    fail "dr"
    refine use_added ⟨ha, hp, hr1⟩ ?_
    fail "dr"
    exact q
theorem use_Adder_outcome {T : Tx P K mg} {p : Nat} {a : List Nat × Bool} {r : List Bool} {n : Nat} {Q : HD.I → Nat → Prop} {E : HD.XD} (h : AdOk p a ∧ p ≤ 6 ∧ r.length = p) (q : Q (.v (.int (gv a.1 a.2 r : Int))) n) : spd_Adder_outcome T [addI T a, rowD r] n Q E := ⟨p, a, r, rfl, h, q⟩
theorem fm_congr {α β : Type} {f g : α → List β} : ∀ {l : List α}, (∀ x ∈ l, f x = g x) → l.flatMap f = l.flatMap g
  | [], _ => rfl
  | x :: l, h => by rw [List.flatMap_cons, List.flatMap_cons, h x (List.mem_cons_self ..), fm_congr fun y hy => h y (List.mem_cons_of_mem _ hy)]
/-! all rows, all adders -/
theorem range_two (m : Nat) : List.range (2 * m) = (List.range m).flatMap fun i => [2 * i, 2 * i + 1] := by
  induction m with
  | zero => rfl
  | succ m ih =>
    rw [show 2 * (m + 1) = 2 * m + 1 + 1 by omega, List.range_succ, List.range_succ, ih, List.range_succ, List.flatMap_append]
    simp
theorem rowAt_two (k i : Nat) (b : Bool) : rowAt (k + 1) (2 * i + b.toNat) = rowAt k i ++ [b] := by
  unfold rowAt
  rw [List.range_succ, List.map_append]
  congr 1
  · refine List.map_congr_left fun a ha => ?_
    have ha := List.mem_range.mp ha
    rw [show k + 1 - 1 - a = (k - 1 - a) + 1 by omega, Nat.testBit_succ]
    congr 1
    cases b <;> simp <;> omega
  · rw [List.map_cons, List.map_nil]
    congr 1
    rw [show k + 1 - 1 - k = 0 by omega, Nat.testBit_zero]
    cases b <;> simp <;> omega
def twoR (r : List Bool) : List (List Bool) := [r ++ [false], r ++ [true]]
theorem rowsL_succ (k : Nat) : rowsL (k + 1) = (rowsL k).flatMap twoR := by
  unfold rowsL
  rw [Nat.pow_succ, Nat.mul_comm, range_two, List.map_flatMap, List.flatMap_map]
  refine fm_congr fun i _ => ?_
  rw [List.map_cons, List.map_cons, List.map_nil, twoR, ← rowAt_two, ← rowAt_two]
  rfl
def twoD : HD.D → List HD.D
  | .tup xs => [.tup (xs ++ [.int 0]), .tup (xs ++ [.int 1])]
  | _ => []
theorem twoD_row (r : List Bool) : twoD (rowD r) = (twoR r).map rowD := by
  rw [rowD, twoD, twoR]
  simp [rowD]
  exact ⟨rfl, rfl⟩
theorem rows_two (k : Nat) : ((rowsL k).map rowD).flatMap twoD = (rowsL (k + 1)).map rowD := by
  rw [rowsL_succ, List.map_flatMap, List.flatMap_map]
  exact fm_congr fun r _ => twoD_row r
def spd_all_rows (ds : List HD.D) (n : Nat) (Q : HD.I → Nat → Prop) (_ : HD.XD) : Prop := ∃ (p : Nat), ds = [.int (p : Int)] ∧ (p ≤ 6) ∧ Q (.o (.lst ((rowsL p).map rowD))) n
theorem use_all_rows {p : Nat} {n : Nat} {Q : HD.I → Nat → Prop} {E : HD.XD} (h : p ≤ 6) (q : Q (.o (.lst ((rowsL p).map rowD))) n) : spd_all_rows [.int (p : Int)] n Q E := ⟨p, rfl, h, q⟩
theorem ok_all_rows (T : Tx P K mg) : FnOk P w K mg base CX0 1 T.f_all_rows T.fd_all_rows ["places"] (HD.lift K spd_all_rows) := by
  refine T.F_all_rows.ok sc_all_rows (fun vs H Q E h => ?_) (fun cdv A outer s H vs Q E hr h => ?_)
  · obtain ⟨cx, nn, args, Qd, Ed, hc, hsp⟩ := h
    obtain ⟨p, rfl, h, q⟩ := hsp
    exact hc.ra.len
  obtain ⟨cx, nn, args, Qd, Ed, hc, hsp⟩ := h
  obtain ⟨p, rfl, h, q⟩ := hsp
  refine ⟨_, (pss_cons (ps_set (i := 1) sc_all_rows.nd rfl (by first | exact .inl rfl | exact .inr rfl) (pe_lst (pa_cons (pe_tup pa_nil) pa_nil)))
      (pss_cons (ps_for PassesOwn.never (by rfl) (pi_range1 (by rfl) T.z_range (pa_cons (pv 0) pa_nil)) (pg_name (i := 2) sc_all_rows.nd rfl (by first | exact .inl rfl | exact .inr rfl)) (pss_one (ps_setLc2 (i := 1) (own := [("row", 3), ("bit", 4)]) (vs1 := [4]) (g := gName 3) (g1 := gName 4) (tt := tYes) (tt1 := tYes) (by rfl) sc_all_rows.nd rfl rfl (sw_true rfl rfl rfl (by decide +kernel)) (pi_listK (K := K) (pv 1)) (blkOk_by (own := [("row", 3), ("bit", 4)]) (N := n_all_rows) (sc := defScope s_all_rows) (by decide +kernel)) (by decide) (fun _ _ _ _ _ => (pg_name (i := 3) sc_all_rows.nd rfl (by first | exact .inl rfl | exact .inr rfl))) (fun _ _ _ _ _ => pts_nil) (fun _ _ _ _ _ => (pi_tupK (K := K) (pe_tup (pa_cons pe_int (pa_cons pe_int pa_nil))))) (fun _ _ _ _ _ => (pg_name (i := 4) sc_all_rows.nd rfl (by first | exact .inl rfl | exact .inr rfl))) (fun _ _ _ _ _ => pts_nil) (fun _ _ _ _ _ => (pe_tup (HY.pa_starK (K := K) (pv 3) (pa_cons (pv 4) pa_nil)))))))
      (pss_one (ps_ret (pv 1))))), HD.enter (ρ := [HD.S.v (.int (p : Int) : HD.D), HD.S.un, HD.S.un, HD.S.un, HD.S.un]) hc rfl ?_⟩
  clear hc

  fail "dr"
  rw [HBt.rngN_eq]
  refine HD.ForD.inv (fun i ρ m => m = nn ∧ ∃ x2 x3 x4, ρ = [.v (.int (p : Int)), .ow (.lst ((rowsL i).map rowD)), x2, x3, x4]) ⟨rfl, _, _, _, rfl⟩ (fun i x ρ m hx hi hP => ?_) (fun ρ m hP => ?_)
  · obtain ⟨rfl, x2, x3, x4, rfl⟩ := hP
    rw [HBt.rngN_len] at hi
    have h6 := pow6 (show i ≤ 6 by omega)
    have h7 := pow6 (show i + 1 ≤ 6 by omega)
    have hl := rowsL_len i
    have hl7 := rowsL_len (i + 1)
    fail "dr"
    refine HD.CpD2.flatD (xs := (rowsL i).map rowD) twoD (fun y hy ys hys => ?_) ?_
    · obtain ⟨r, hr1, rfl⟩ := List.mem_map.mp hy
      rw [rows_two, List.length_map] at hys
      fail "dr"
      have hrl := rowsL_mem hr1
      refine ⟨Nat.ble_eq_true_of_le (by simp; omega), ?_⟩
      fail "dr"
      rw [frzV, valsV]
      refine ⟨Nat.ble_eq_true_of_le (by omega), ?_⟩
      fail "dr"
      refine ⟨Nat.ble_eq_true_of_le (by simp; omega), ?_⟩
      fail "dr"
      rw [frzV, valsV]
      refine ⟨Nat.ble_eq_true_of_le (by rw [List.length_append]; simp; omega), ?_⟩
      fail "dr"
      refine ⟨?_, rfl, rfl⟩
      rw [twoD_row, twoR, List.append_assoc]
      simp [rowD]
      exact ⟨rfl, rfl⟩
    · rw [rows_two]
      fail "dr"
      exact ⟨rfl, _, _, _, rfl⟩
  · obtain ⟨rfl, x2, x3, x4, rfl⟩ := hP
    rw [HBt.rngN_len]
    fail "dr"
    exact q
local macro_rules | `(tactic| fail "du") => `(tactic| ((with_reducible refine' use_all_rows ?h ?_); (case h => omega)))
/-! the places of ones, told by enumerate -/
def onD : HD.D → Bool
  | .tup [_, .int b] => decide (b = 1)
  | _ => false
theorem lot_enum : ∀ (k : Nat) (r : List Bool), ((HW.enumF k (r.map bitD)).filter onD).map fstD = ((List.range r.length).filter fun a => r.getD a false).map fun (a : Nat) => HD.D.int ((k + a : Nat) : Int)
  | _, [] => rfl
  | k, b :: r => by
    rw [List.map_cons, HW.enumF, List.length_cons, List.range_succ_eq_map, List.filter_cons, List.filter_cons]
    have e : ((List.map Nat.succ (List.range r.length)).filter fun a => (b :: r).getD a false) = ((List.range r.length).filter fun a => r.getD a false).map Nat.succ := by
      rw [List.filter_map]
      rfl
    have ih := lot_enum (k + 1) r
    have e2 : (((List.range r.length).filter fun a => r.getD a false).map Nat.succ).map (fun (a : Nat) => HD.D.int ((k + a : Nat) : Int)) = ((List.range r.length).filter fun a => r.getD a false).map fun (a : Nat) => HD.D.int ((k + 1 + a : Nat) : Int) := by
      rw [List.map_map]
      refine List.map_congr_left fun a _ => ?_
      show HD.D.int ((k + (a + 1) : Nat) : Int) = _
      rw [show k + (a + 1) = k + 1 + a by omega]
    rw [e]
    cases b with
    | true =>
      rw [if_pos (by rfl), if_pos (by rfl), List.map_cons, List.map_cons, ih, e2]
      rfl
    | false =>
      rw [if_neg (show ¬ onD (.tup [.int (k : Int), bitD false]) = true from fun z => by cases z), if_neg (show ¬ (false :: r).getD 0 false = true from fun z => by cases z), ih, e2]
theorem lot_enumD (r : List Bool) : ((HW.enumD (r.map bitD)).filter onD).map fstD = HBt.natsD (lotOf r) := by
  have := lot_enum 0 r
  rw [show HW.enumD (r.map bitD) = HW.enumF 0 (r.map bitD) from rfl, this, HBt.natsD, lotOf]
  refine List.map_congr_left fun a _ => ?_
  rw [Nat.zero_add]
/-! the lots, sorted -/
def unLot : HD.D → List Nat
  | .tup xs => xs.map fun d => match d with
    | .int i => i.toNat
    | _ => 0
  | _ => []
def lotT (l : List Nat) : HD.D := .tup (HBt.natsD l)
theorem unLot_lot (l : List Nat) : unLot (lotT l) = l := by
  show (HBt.natsD l).map _ = l
  rw [HBt.natsD, List.map_map]
  refine (List.map_congr_left fun a _ => ?_).trans (List.map_id l)
  show (a : Int).toNat = a
  exact Int.toNat_natCast a
def lotsS (p : Nat) : List (List Nat) := (HY.sortD (lotsD p)).map unLot
theorem lots_T (p : Nat) : HY.sortD (lotsD p) = (lotsS p).map lotT := by
  rw [lotsS, List.map_map]
  refine ((List.map_congr_left fun d hd => ?_).trans (List.map_id _)).symm
  obtain ⟨r, _, rfl⟩ := List.mem_map.mp ((HY.sortD_perm _).mem_iff.mp hd)
  show lotT (unLot (lotT (lotOf r))) = lotT (lotOf r)
  rw [unLot_lot]
theorem lotsS_perm (p : Nat) : (lotsS p).Perm ((rowsL p).map lotOf) := by
  have h := (HY.sortD_perm (lotsD p)).map unLot
  refine h.trans (List.Perm.of_eq ?_)
  rw [lotsD, List.map_map]
  exact List.map_congr_left fun r _ => unLot_lot (lotOf r)
def bothA (l : List Nat) : List (List Nat × Bool) := [(l, false), (l, true)]
/-- all adders -/
def adP (p : Nat) : List (List Nat × Bool) := (lotsS p).flatMap bothA
theorem adF_both : ∀ ls : List (List Nat), adF (ls.map lotT) = (ls.flatMap bothA).map fun a => adD a.1 a.2
  | [] => rfl
  | l :: ls => by
    rw [List.map_cons, adF, adF_both ls, List.flatMap_cons, List.map_append]
    rfl
theorem adL_P (p : Nat) : adL p = (adP p).map fun a => adD a.1 a.2 := by rw [adL, lots_T, adF_both, adP]
theorem lotsS_len (p : Nat) : (lotsS p).length = 2 ^ p := by rw [(lotsS_perm p).length_eq, List.length_map, rowsL_len]
theorem adP_len (p : Nat) : (adP p).length = 2 * 2 ^ p := by
  have := adL_len p
  rwa [adL_P, List.length_map] at this
theorem lotOf_up (r : List Bool) : (lotOf r).Pairwise (· < ·) := List.pairwise_lt_range.sublist List.filter_sublist
theorem lotsS_ok {p : Nat} {l : List Nat} (h : l ∈ lotsS p) (c : Bool) : AdOk p (l, c) := by
  obtain ⟨r, hr, rfl⟩ := List.mem_map.mp ((lotsS_perm p).mem_iff.mp h)
  have hl := rowsL_mem hr
  refine ⟨lotOf_up r, fun a ha => ?_, ?_⟩
  · have := List.mem_range.mp (List.mem_filter.mp ha).1; omega
  · have := List.length_filter_le (fun a => r.getD a false) (List.range r.length)
    rw [List.length_range] at this
    show (lotOf r).length ≤ p
    unfold lotOf
    omega
theorem adP_ok {p : Nat} {a : List Nat × Bool} (h : a ∈ adP p) : AdOk p a := by
  obtain ⟨l, hl, ha⟩ := List.mem_flatMap.mp h
  rcases List.mem_cons.mp ha with rfl | ha
  · exact lotsS_ok hl false
  · rcases List.mem_cons.mp ha with rfl | ha
    · exact lotsS_ok hl true
    · cases ha
theorem okK_natsT {k : Nat} {l : List Nat} (h : l.length ≤ 100000) : HY.okK K (k + 1) (.tup (HBt.natsD l)) := by
  refine ⟨by rw [HBt.natsD, List.length_map]; exact h, fun x hx => ?_⟩
  obtain ⟨i, _, rfl⟩ := List.mem_map.mp hx
  cases k <;> rfl
def bothI (T : Tx P K mg) : HD.D → List HD.D
  | .tup xs => (bothA (unLot (.tup xs))).map (addI T)
  | _ => []
theorem bothI_lot (T : Tx P K mg) (l : List Nat) : bothI T (lotT l) = (bothA l).map (addI T) := by
  show (bothA (unLot (lotT l))).map (addI T) = _
  rw [unLot_lot]
theorem both_all (T : Tx P K mg) (ls : List (List Nat)) : (ls.map lotT).flatMap (bothI T) = (ls.flatMap bothA).map (addI T) := by
  rw [List.map_flatMap, List.flatMap_map]
  exact fm_congr fun l _ => bothI_lot T l
def lotE : HD.D → HD.D
  | .tup xs => .tup (((HW.enumD xs).filter onD).map fstD)
  | _ => .non
theorem lotE_row (r : List Bool) : lotE (rowD r) = lotD r := by
  show HD.D.tup (((HW.enumD (r.map bitD)).filter onD).map fstD) = _
  rw [lot_enumD]; rfl
def spd_all_adders (T : Tx P K mg) (ds : List HD.D) (n : Nat) (Q : HD.I → Nat → Prop) (_ : HD.XD) : Prop := ∃ p : Nat, ds = [.int (p : Int)] ∧ p ≤ 6 ∧ Q (.o (.lst ((adP p).map (addI T)))) n
theorem ok_all_adders (T : Tx P K mg) : FnOk P w K mg base CX0 7 T.f_all_adders T.fd_all_adders ["places"] (HD.lift K (spd_all_adders T)) := by
  refine T.F_all_adders.ok sc_all_adders (fun vs H Q E h => ?_) (fun cdv A outer s H vs Q E hr h => ?_)
  · obtain ⟨cx, nn, args, Qd, Ed, hc, hsp⟩ := h
    obtain ⟨p, rfl, h, q⟩ := hsp
    exact hc.ra.len
  obtain ⟨cx, nn, args, Qd, Ed, hc, hsp⟩ := h
  obtain ⟨p, rfl, h, q⟩ := hsp
  refine ⟨_, (pss_cons (ps_set (i := 4) sc_all_adders.nd rfl (by first | exact .inl rfl | exact .inr rfl) (pe_callB (HZ.cr_sortD (K := K) hr.units) (by rfl) T.z_sorted (by decide +kernel) (pa_cons (pe_lc (own := [("row", 3)]) (g := gName 3) (tt := tYes) (by rfl) sc_all_adders.nd (pi_listK (K := K) (pe_call (ok_all_rows T) (hr.mono (by decide)) (by rfl) T.g_all_rows T.F_all_rows.kp T.b_all_rows .nil pass0 (pa_cons (pv 0) pa_nil))) (blkOk_by (own := [("row", 3)]) (N := n_all_adders) (sc := defScope s_all_adders) (by decide +kernel)) (fun _ _ _ _ _ => (pg_name (i := 3) sc_all_adders.nd rfl (by first | exact .inl rfl | exact .inr rfl))) (fun _ _ _ _ _ => pts_nil) (fun _ _ _ _ _ => (pe_callTy (call_tupleK (K := K)) (by rfl) T.z_tuple (by decide +kernel) (pa_cons (pe_lc (own := [("place", 1), ("bit", 2)]) (by rfl) sc_all_adders.nd (HW.pi_enK (K := K) (by rfl) T.z_enumerate (pa_cons (pv 3) pa_nil)) (blkOk_by (own := [("place", 1), ("bit", 2)]) (by kernel_rfl)) (fun _ _ _ _ _ => (pg_tupK (K := K) 2 (by rfl) (pgs_cons (pg_name (i := 1) sc_all_adders.nd rfl (by first | exact .inl rfl | exact .inr rfl)) (pgs_cons (pg_name (i := 2) sc_all_adders.nd rfl (by first | exact .inl rfl | exact .inr rfl)) pgs_nil)))) (fun _ _ _ _ _ => (pts_one (pt_cmpR (op_eqK (K := K) hr.units) (pv 2) pe_int (nomark _)))) (fun _ _ _ _ _ => (pv 1))) pa_nil)))) pa_nil)))
      (pss_one (ps_ret (pe_lc2 (own := [("lot", 5), ("constant", 6)]) (vs1 := [6]) (g := gName 5) (g1 := gName 6) (tt := tYes) (tt1 := tYes) (by rfl) sc_all_adders.nd (pi_listK (K := K) (pv 4)) (blkOk_by (own := [("lot", 5), ("constant", 6)]) (N := n_all_adders) (sc := defScope s_all_adders) (by decide +kernel)) (by decide) (fun _ _ _ _ _ => (pg_name (i := 5) sc_all_adders.nd rfl (by first | exact .inl rfl | exact .inr rfl))) (fun _ _ _ _ _ => pts_nil) (fun _ _ _ _ _ => (pi_tupK (K := K) (pe_tup (pa_cons pe_int (pa_cons pe_int pa_nil))))) (fun _ _ _ _ _ => (pg_name (i := 6) sc_all_adders.nd rfl (by first | exact .inl rfl | exact .inr rfl))) (fun _ _ _ _ _ => pts_nil) (fun _ _ _ _ _ => (StX.pe_makeR T.mk_Adder (ok_Adder_init T) (hr.mono (by decide)) (by rfl) T.g_Adder pass0 (pa_cons (pv 5) (pa_cons (pv 6) pa_nil)))))))), HD.enter (ρ := [HD.S.v (.int (p : Int) : HD.D), HD.S.un, HD.S.un, HD.S.un, HD.S.un, HD.S.un, HD.S.un]) hc rfl ?_⟩
  clear hc

  have h6 := pow6 h
  fail "dr"
  refine HD.CpD.mapD (xs := (rowsL p).map rowD) lotE (by rw [List.length_map, rowsL_len]; omega) (fun y hy ys => ?_) ?_
  · obtain ⟨r, hr, rfl⟩ := List.mem_map.mp hy
    have hl := rowsL_mem hr
    fail "dr"
    refine HD.CpD.filD (xs := HW.enumD (r.map bitD)) onD fstD (by rw [HW.enumD_len, List.length_map]; omega) (fun z hz zs => ?_) ?_
    · obtain ⟨j, hj⟩ := List.getElem?_of_mem hz
      obtain ⟨w, hw, rfl⟩ := HW.enumD_at hj
      obtain ⟨b, _, rfl⟩ := List.mem_map.mp (List.mem_of_getElem? hw)
      fail "dr"
      refine ⟨rfl, ?_⟩
      split
      · fail "dr"
        exact ⟨rfl, rfl, rfl⟩
      · exact ⟨rfl, rfl⟩
    · fail "dr"
      exact ⟨rfl, rfl, rfl⟩
  · rw [List.map_map, List.map_congr_left (f := lotE ∘ rowD) (g := lotD) (fun r _ => lotE_row r)]
    obtain ⟨s1, s2, s3, s4⟩ := lots_sort p
    fail "dr"
    refine HY.sortD_ (xs := lotsD p) rfl s1 s2 (.inr s3) s4 ?_
    rw [lots_T]
    have hlen := lotsS_len p
    have hok := fun l (hl : l ∈ lotsS p) c => lotsS_ok hl c
    unfold adP at q
    generalize lotsS p = L at q hlen hok ⊢
    fail "dr"
    refine HD.CpD2.flatD (xs := L.map lotT) (bothI T) (fun y hy ys hys => ?_) ?_
    · obtain ⟨l, hl, rfl⟩ := List.mem_map.mp hy
      have hk := fun c => hok l hl c
      have hf : l.length ≤ p := (hk false).few
      have ef : (lotT l).fix = lotT l := by rw [lotT, HD.D.fix, fixs_nats]
      have hfl : ((L.map lotT).flatMap (bothI T)).length = 2 * 2 ^ p := by
        have e2 := adF_len (L.map lotT)
        rw [adF_both, List.length_map, List.length_map, hlen] at e2
        rw [both_all, List.length_map, e2]
      rw [hfl] at hys
      fail "dr"
      refine use_Adder_init (okK_natsT (by omega)) rfl ?_
      rw [ef]
      refine ⟨Nat.ble_eq_true_of_le (by omega), ?_⟩
      fail "dr"
      refine use_Adder_init (okK_natsT (by omega)) rfl ?_
      rw [ef]
      refine ⟨Nat.ble_eq_true_of_le (by rw [List.length_append]; simp; omega), ?_⟩
      fail "dr"
      refine ⟨?_, rfl, rfl⟩
      rw [bothI_lot, List.append_assoc]
      rfl
    · rw [both_all]
      fail "dr"
      exact q
theorem use_all_adders {T : Tx P K mg} {p n : Nat} {Q : HD.I → Nat → Prop} {E : HD.XD} (h : p ≤ 6) (q : Q (.o (.lst ((adP p).map (addI T)))) n) : spd_all_adders T [.int (p : Int)] n Q E := ⟨p, rfl, h, q⟩
theorem rangeLt {m i : Nat} (h : i ∈ List.range m) : i < m := List.mem_range.mp h
/-- the numbers of the cases that an adder does not fit -/
def wrG (a : List Nat × Bool) : Nat → List (List Bool × Bool) → List Nat
  | _, [] => []
  | k, c :: cs => if gv a.1 a.2 c.1 = c.2.toNat then wrG a (k + 1) cs else k :: wrG a (k + 1) cs
def oneB : HD.D → Bool
  | .int i => decide (i = 1)
  | _ => false
def wrP (a : List Nat × Bool) : HD.D → Bool
  | .tup [_, .tup [.tup r, .int o]] => decide (¬ ((gv a.1 a.2 (r.map oneB) : Nat) : Int) = o)
  | _ => false
theorem unbit (r : List Bool) : (r.map bitD).map oneB = r := by
  rw [List.map_map]
  refine (List.map_congr_left fun b _ => ?_).trans (List.map_id r)
  exact bi_eq1 b
theorem wrP_case (a : List Nat × Bool) (k : Nat) (c : List Bool × Bool) : wrP a (.tup [.int (k : Int), caseD c]) = decide (¬ gv a.1 a.2 c.1 = c.2.toNat) := by
  show decide (¬ ((gv a.1 a.2 ((c.1.map bitD).map oneB) : Nat) : Int) = bi c.2) = _
  rw [unbit]
  exact decide_eq_decide.mpr ⟨fun h z => h (by rw [z]), fun h z => h (by exact_mod_cast z)⟩
theorem wr_enum (a : List Nat × Bool) : ∀ (k : Nat) (cs : List (List Bool × Bool)), ((HW.enumF k (cs.map caseD)).filter (wrP a)).map fstD = HBt.natsD (wrG a k cs)
  | _, [] => rfl
  | k, c :: cs => by
    rw [List.map_cons, HW.enumF, List.filter_cons, wrP_case, wrG]
    by_cases h : gv a.1 a.2 c.1 = c.2.toNat
    · rw [if_pos h, if_neg (by simp [h]), wr_enum a (k + 1) cs]
    · rw [if_neg h, if_pos (by simp [h]), List.map_cons, wr_enum a (k + 1) cs]
      rfl
/-- an adder that gives the cases their outcomes -/
def fitB (cs : List (List Bool × Bool)) (a : List Nat × Bool) : Bool := cs.all fun c => decide (gv a.1 a.2 c.1 = c.2.toNat)
theorem wrG_nil (a : List Nat × Bool) : ∀ (k : Nat) (cs : List (List Bool × Bool)), (wrG a k cs).isEmpty = fitB cs a
  | _, [] => rfl
  | k, c :: cs => by
    rw [wrG, fitB, List.all_cons]
    by_cases h : gv a.1 a.2 c.1 = c.2.toNat
    · rw [if_pos h, decide_eq_true h, Bool.true_and]; exact wrG_nil a (k + 1) cs
    · rw [if_neg h, decide_eq_false h, Bool.false_and]; rfl
def spd_wrong_at (T : Tx P K mg) (ds : List HD.D) (n : Nat) (Q : HD.I → Nat → Prop) (_ : HD.XD) : Prop := ∃ (p : Nat) (a : List Nat × Bool) (cs : List (List Bool × Bool)), ds = [addI T a, bookD T p cs] ∧ (AdOk p a ∧ BookOk p cs) ∧ Q (.v (.tup (HBt.natsD (wrG a 0 cs)))) n
theorem ok_wrong_at (T : Tx P K mg) : FnOk P w K mg base CX0 6 T.f_wrong_at T.fd_wrong_at ["adder", "book"] (HD.lift K (spd_wrong_at T)) := by
  refine T.F_wrong_at.ok sc_wrong_at (fun vs H Q E h => ?_) (fun cdv A outer s H vs Q E hr h => ?_)
  · obtain ⟨cx, nn, args, Qd, Ed, hc, hsp⟩ := h
    obtain ⟨p, a, cs, rfl, ⟨ha, hb⟩, q⟩ := hsp
    exact hc.ra.len
  obtain ⟨cx, nn, args, Qd, Ed, hc, hsp⟩ := h
  obtain ⟨p, a, cs, rfl, ⟨ha, hb⟩, q⟩ := hsp
  refine ⟨_, (pss_one (ps_ret (pe_callTy (call_tupleK (K := K)) (by rfl) T.z_tuple (by decide +kernel) (pa_cons (pe_lc (own := [("number", 2), ("row", 3), ("outcome", 4)]) (by rfl) sc_wrong_at.nd (HW.pi_enK (K := K) (by rfl) T.z_enumerate (pa_cons (HC.pe_fldK (K := K) (pv 1)) pa_nil)) (blkOk_by (own := [("number", 2), ("row", 3), ("outcome", 4)]) (N := n_wrong_at) (sc := defScope s_wrong_at) (by decide +kernel)) (fun _ _ _ _ _ => (pg_tupK (K := K) 2 (by rfl) (pgs_cons (pg_name (i := 2) sc_wrong_at.nd rfl (by first | exact .inl rfl | exact .inr rfl)) (pgs_cons (pg_tupK (K := K) 2 (by rfl) (pgs_cons (pg_name (i := 3) sc_wrong_at.nd rfl (by first | exact .inl rfl | exact .inr rfl)) (pgs_cons (pg_name (i := 4) sc_wrong_at.nd rfl (by first | exact .inl rfl | exact .inr rfl)) pgs_nil))) pgs_nil)))) (fun _ _ _ _ _ => (pts_one (pt_cmpR (op_neK (K := K) hr.units) (pe_methR (pv 0) T.pc_Adder.cl T.me_Adder_outcome (HY.fnr_ok0 (ok_Adder_outcome T) T.b_Adder_outcome) (hr.mono (by decide)) pass0 (pa_cons (pv 3) pa_nil)) (pv 4) (nomark _)))) (fun _ _ _ _ _ => (pv 2))) pa_nil)))), HD.enter (ρ := [HD.S.v (addI T a : HD.D), HD.S.v (bookD T p cs : HD.D), HD.S.un, HD.S.un, HD.S.un]) hc rfl ?_⟩
  clear hc

  have hf := hb.few
  have hp6 := hb.p6
  fail "dr"
  refine HD.CpD.filD (xs := HW.enumD (cs.map caseD)) (wrP a) fstD (by rw [HW.enumD_len, List.length_map]; omega) (fun y hy ys => ?_) ?_
  · obtain ⟨j, hj⟩ := List.getElem?_of_mem hy
    obtain ⟨z, hz, rfl⟩ := HW.enumD_at hj
    rw [List.getElem?_map] at hz
    obtain ⟨c, hc, rfl⟩ := Option.map_eq_some_iff.mp hz
    have hcl := hb.len c (List.mem_of_getElem? hc)
    fail "dr"
    refine use_Adder_outcome ⟨ha, hp6, hcl⟩ ?_
    rw [wrP_case]
    fail "dr"
    refine ⟨?_, ?_⟩
    · rw [← decide_not]
      exact decide_eq_decide.mpr ⟨fun h z => h (by rw [z]), fun h z => h (by exact_mod_cast z)⟩
    · split
      · fail "dr"
        exact ⟨rfl, rfl, rfl⟩
      · exact ⟨rfl, rfl⟩
  · rw [show ((HW.enumD (cs.map caseD)).filter (wrP a)).map fstD = HBt.natsD (wrG a 0 cs) from wr_enum a 0 cs]
    fail "dr"
    exact q
theorem use_wrong_at {T : Tx P K mg} {p : Nat} {a : List Nat × Bool} {cs : List (List Bool × Bool)} {n : Nat} {Q : HD.I → Nat → Prop} {E : HD.XD} (h : AdOk p a ∧ BookOk p cs) (q : Q (.v (.tup (HBt.natsD (wrG a 0 cs)))) n) : spd_wrong_at T [addI T a, bookD T p cs] n Q E := ⟨p, a, cs, rfl, h, q⟩
/-- all adders that fit -/
def fitP (p : Nat) (cs : List (List Bool × Bool)) : List (List Nat × Bool) := (adP p).filter (fitB cs)
def spd_fitting (T : Tx P K mg) (ds : List HD.D) (n : Nat) (Q : HD.I → Nat → Prop) (_ : HD.XD) : Prop := ∃ (p : Nat) (cs : List (List Bool × Bool)), ds = [bookD T p cs] ∧ BookOk p cs ∧ Q (.v (.tup ((fitP p cs).map (addI T)))) n
def adB (cs : List (List Bool × Bool)) : HD.D → Bool
  | .ins _ [_, _, (_, .tup xs), (_, .int c)] => fitB cs (unLot (.tup xs), decide (c = 1))
  | _ => false
theorem adB_add (T : Tx P K mg) (cs : List (List Bool × Bool)) (a : List Nat × Bool) : adB cs (addI T a) = fitB cs a := by
  show fitB cs (unLot (lotT a.1), decide (bi a.2 = 1)) = _
  rw [unLot_lot, bi_eq1]
theorem nob_natsT (l : List Nat) : HS2.nob 1 (.tup (HBt.natsD l)) = true := by rw [HBt.natsD_ints]; exact HS2.nob_intsT _
theorem eq_nilT (l : List Nat) : HS2.eqB (.tup (HBt.natsD l)) (.tup []) = l.isEmpty := by
  cases l with
  | nil => exact HS2.eqB_true rfl
  | cons x l => exact HS2.eqB_false (fun z => by injection z with z; cases z)
theorem ok_fitting (T : Tx P K mg) : FnOk P w K mg base CX0 8 T.f_fitting T.fd_fitting ["book"] (HD.lift K (spd_fitting T)) := by
  refine T.F_fitting.ok sc_fitting (fun vs H Q E h => ?_) (fun cdv A outer s H vs Q E hr h => ?_)
  · obtain ⟨cx, nn, args, Qd, Ed, hc, hsp⟩ := h
    obtain ⟨p, cs, rfl, hb, q⟩ := hsp
    exact hc.ra.len
  obtain ⟨cx, nn, args, Qd, Ed, hc, hsp⟩ := h
  obtain ⟨p, cs, rfl, hb, q⟩ := hsp
  refine ⟨_, (pss_cons (ps_expr (pe_call (ok_need_book T) (hr.mono (by decide)) (by rfl) T.g_need_book T.F_need_book.kp T.b_need_book .nil pass0 (pa_cons (pv 0) (pa_cons pe_str pa_nil))))
      (pss_one (ps_ret (pe_callTy (call_tupleK (K := K)) (by rfl) T.z_tuple (by decide +kernel) (pa_cons (pe_lc (own := [("adder", 1)]) (g := gName 1) (by rfl) sc_fitting.nd (pi_listK (K := K) (pe_call (ok_all_adders T) (hr.mono (by decide)) (by rfl) T.g_all_adders T.F_all_adders.kp T.b_all_adders .nil pass0 (pa_cons (HC.pe_fldK (K := K) (pv 0)) pa_nil))) (blkOk_by (own := [("adder", 1)]) (N := n_fitting) (sc := defScope s_fitting) (by decide +kernel)) (fun _ _ _ _ _ => (pg_name (i := 1) sc_fitting.nd rfl (by first | exact .inl rfl | exact .inr rfl))) (fun _ _ _ _ _ => (pts_one (pt_cmpR (op_eqK (K := K) hr.units) (pe_call (ok_wrong_at T) (hr.mono (by decide)) (by rfl) T.g_wrong_at T.F_wrong_at.kp T.b_wrong_at .nil pass0 (pa_cons (pv 1) (pa_cons (pv 0) pa_nil))) (pe_tup pa_nil) (nomark _)))) (fun _ _ _ _ _ => (pv 1))) pa_nil))))), HD.enter (ρ := [HD.S.v (bookD T p cs : HD.D), HD.S.un]) hc rfl ?_⟩
  clear hc

  have hp6 := hb.p6
  have hlen := adP_len p
  have hpw := pow6 hp6
  have hok := fun a (h : a ∈ adP p) => adP_ok h
  unfold fitP at q
  fail "dr"
  refine use_all_adders hp6 ?_
  generalize adP p = L at q hlen hok ⊢
  fail "dr"
  refine HD.CpD.filD (xs := L.map (addI T)) (adB cs) id (by rw [List.length_map]; omega) (fun y hy ys => ?_) ?_
  · obtain ⟨a, ha, rfl⟩ := List.mem_map.mp hy
    rw [adB_add]
    fail "dr"
    refine use_wrong_at ⟨hok a ha, hb⟩ ?_
    fail "dr"
    refine HS2.eqN_ 1 1 (nob_natsT _) (by rfl) (by decide) (by decide) ?_
    rw [show HS2.eqB (HD.I.v (.tup (HBt.natsD (wrG a 0 cs)))).val (HD.I.v (.tup [])).val = fitB cs a from (eq_nilT _).trans (wrG_nil a 0 cs)]
    fail "dr"
    refine ⟨rfl, ?_⟩
    split
    · fail "dr"
      exact ⟨rfl, rfl, rfl⟩
    · exact ⟨rfl, rfl⟩
  · rw [List.map_id, List.filter_map, List.filter_congr (p := adB cs ∘ addI T) (q := fitB cs) (fun a _ => adB_add T cs a)]
    fail "dr"
    exact q
theorem use_fitting {T : Tx P K mg} {p : Nat} {cs : List (List Bool × Bool)} {n : Nat} {Q : HD.I → Nat → Prop} {E : HD.XD} (h : BookOk p cs) (q : Q (.v (.tup ((fitP p cs).map (addI T)))) n) : spd_fitting T [bookD T p cs] n Q E := ⟨p, cs, rfl, h, q⟩
def wrC (a : List Nat × Bool) : HD.D → Bool
  | .tup [.tup r, .int o] => decide (¬ ((gv a.1 a.2 (r.map oneB) : Nat) : Int) = o)
  | _ => false
theorem wrC_case (a : List Nat × Bool) (c : List Bool × Bool) : wrC a (caseD c) = decide (¬ gv a.1 a.2 c.1 = c.2.toNat) := by
  show decide (¬ ((gv a.1 a.2 ((c.1.map bitD).map oneB) : Nat) : Int) = bi c.2) = _
  rw [unbit]
  exact decide_eq_decide.mpr ⟨fun h z => h (by rw [z]), fun h z => h (by exact_mod_cast z)⟩
def oneD : HD.D → HD.D := fun _ => .int 1
def wrL (a : List Nat × Bool) (cs : List (List Bool × Bool)) : List HD.D := ((cs.map caseD).filter (wrC a)).map oneD
theorem wrL_nil (a : List Nat × Bool) : ∀ cs : List (List Bool × Bool), (wrL a cs).isEmpty = fitB cs a
  | [] => rfl
  | c :: cs => by
    have ih := wrL_nil a cs
    unfold wrL at ih ⊢
    rw [List.map_cons, List.filter_cons, wrC_case, fitB, List.all_cons]
    by_cases h : gv a.1 a.2 c.1 = c.2.toNat
    · rw [if_neg (by simp [h]), ih, decide_eq_true h, Bool.true_and]; rfl
    · rw [if_pos (by simp [h]), decide_eq_false h, Bool.false_and]; rfl
theorem wrL_len (a : List Nat × Bool) (cs : List (List Bool × Bool)) : (wrL a cs).length ≤ cs.length := by
  rw [wrL, List.length_map]
  have := List.length_filter_le (wrC a) (cs.map caseD)
  rwa [List.length_map] at this
theorem wrL_nob (a : List Nat × Bool) (cs : List (List Bool × Bool)) : HS2.nob 1 (.lst (wrL a cs)) = true := by
  have : wrL a cs = (((cs.map caseD).filter (wrC a)).map fun _ => (1 : Int)).map HD.D.int := by rw [List.map_map]; rfl
  rw [this]; exact HS2.nob_ints _
theorem eq_nilL (l : List HD.D) : HS2.eqB (.lst l) (.lst []) = l.isEmpty := by
  cases l with
  | nil => exact HS2.eqB_true rfl
  | cons x l => exact HS2.eqB_false (fun z => by injection z with z; cases z)
def adQ (cs : List (List Bool × Bool)) : HD.D → Bool
  | .tup [.tup xs, .int c] => fitB cs (unLot (.tup xs), decide (c = 1))
  | _ => false
theorem adQ_ad (cs : List (List Bool × Bool)) (a : List Nat × Bool) : adQ cs (adD a.1 a.2) = fitB cs a := by
  show fitB cs (unLot (lotT a.1), decide (bi a.2 = 1)) = _
  rw [unLot_lot, bi_eq1]
def adDp (a : List Nat × Bool) : HD.D := adD a.1 a.2
def spd__law_fits (ds : List HD.D) (n : Nat) (Q : HD.I → Nat → Prop) (_ : HD.XD) : Prop := ∃ (p : Nat) (cs : List (List Bool × Bool)), ds = [.int (p : Int), .lst (cs.map caseD)] ∧ ((∀ c ∈ cs, c.1.length = p) ∧ p ≤ 6 ∧ cs.length ≤ 100) ∧ Q (.o (.lst ((fitP p cs).map adDp))) n
theorem use__law_fits {p : Nat} {cs : List (List Bool × Bool)} {n : Nat} {Q : HD.I → Nat → Prop} {E : HD.XD} (h : (∀ c ∈ cs, c.1.length = p) ∧ p ≤ 6 ∧ cs.length ≤ 100) (q : Q (.o (.lst ((fitP p cs).map adDp))) n) : spd__law_fits [.int (p : Int), .lst (cs.map caseD)] n Q E := ⟨p, cs, rfl, h, q⟩
theorem ok__law_fits (T : Tx P K mg) : FnOk P w K mg base CX0 3 T.f__law_fits T.fd__law_fits ["places", "cases"] (HD.lift K spd__law_fits) := by
  refine T.F__law_fits.ok sc__law_fits (fun vs H Q E h => ?_) (fun cdv A outer s H vs Q E hr h => ?_)
  · obtain ⟨cx, nn, args, Qd, Ed, hc, hsp⟩ := h
    obtain ⟨p, cs, rfl, h, q⟩ := hsp
    exact hc.ra.len
  obtain ⟨cx, nn, args, Qd, Ed, hc, hsp⟩ := h
  obtain ⟨p, cs, rfl, h, q⟩ := hsp
  refine ⟨_, (pss_one (ps_ret (pe_lc (own := [("adder", 2)]) (g := gName 2) (by rfl) sc__law_fits.nd (pi_listK (K := K) (pe_call (ok__law_adders T) (hr.mono (by decide)) (by rfl) T.g__law_adders T.F__law_adders.kp T.b__law_adders .nil pass0 (pa_cons (pv 0) pa_nil))) (blkOk_by (own := [("adder", 2)]) (N := n__law_fits) (sc := defScope s__law_fits) (by decide +kernel)) (fun _ _ _ _ _ => (pg_name (i := 2) sc__law_fits.nd rfl (by first | exact .inl rfl | exact .inr rfl))) (fun _ _ _ _ _ => (pts_one (pt_cmpR (op_eqK (K := K) hr.units) (pe_lc (own := [("row", 3), ("outcome", 4)]) (by rfl) sc__law_fits.nd (pi_listK (K := K) (pv 1)) (blkOk_by (own := [("row", 3), ("outcome", 4)]) (by kernel_rfl)) (fun _ _ _ _ _ => (pg_tupK (K := K) 2 (by rfl) (pgs_cons (pg_name (i := 3) sc__law_fits.nd rfl (by first | exact .inl rfl | exact .inr rfl)) (pgs_cons (pg_name (i := 4) sc__law_fits.nd rfl (by first | exact .inl rfl | exact .inr rfl)) pgs_nil)))) (fun _ _ _ _ _ => (pts_one (pt_cmpR (op_neK (K := K) hr.units) (pe_call (ok__law_gives T) (hr.mono (by decide)) (by rfl) T.g__law_gives T.F__law_gives.kp T.b__law_gives .nil pass0 (pa_cons (pv 2) (pa_cons (pv 3) pa_nil))) (pv 4) (nomark _)))) (fun _ _ _ _ _ => pe_int)) (pe_lst pa_nil) (nomark _)))) (fun _ _ _ _ _ => (pv 2))))), HD.enter (ρ := [HD.S.v (.int (p : Int) : HD.D), HD.S.v (.lst (cs.map caseD) : HD.D), HD.S.un, HD.S.un, HD.S.un]) hc rfl ?_⟩
  clear hc

  obtain ⟨h1, h2, h3⟩ := h
  have hlen := adP_len p
  have hpw := pow6 h2
  have hok := fun a (h : a ∈ adP p) => adP_ok h
  unfold fitP at q
  fail "dr"
  rw [adL_P]
  generalize adP p = L at q hlen hok ⊢
  refine HD.CpD.filD (xs := L.map adDp) (adQ cs) id (by rw [List.length_map]; omega) (fun y hy ys => ?_) ?_
  · obtain ⟨a, ha, rfl⟩ := List.mem_map.mp hy
    have hk := hok a ha
    have hkf := hk.few
    rw [show adQ cs (adDp a) = fitB cs a from adQ_ad cs a]
    fail "dr"
    refine HD.CpD.filD (xs := cs.map caseD) (wrC a) oneD (by rw [List.length_map]; omega) (fun z hz zs => ?_) ?_
    · obtain ⟨c, hc, rfl⟩ := List.mem_map.mp hz
      have hcl := h1 c hc
      rw [wrC_case]
      fail "dr"
      refine use__law_gives (l := a.1) (c := a.2) (r := c.1) ⟨fun i hi => by rw [hcl]; exact hk.lt i hi, by omega⟩ ?_
      fail "dr"
      refine ⟨?_, ?_⟩
      · rw [← decide_not]
        exact decide_eq_decide.mpr ⟨fun h z => h (by rw [z]), fun h z => h (by exact_mod_cast z)⟩
      · split
        · fail "dr"
          exact ⟨rfl, rfl, rfl⟩
        · exact ⟨rfl, rfl⟩
    · fail "dr"
      refine HS2.eqN_ 1 1 (wrL_nob a cs) (by rfl) (by decide) (by decide) ?_
      rw [show HS2.eqB (HD.I.o (.lst (((cs.map caseD).filter (wrC a)).map oneD))).val (HD.I.o (.lst [])).val = fitB cs a from (eq_nilL (wrL a cs)).trans (wrL_nil a cs)]
      fail "dr"
      refine ⟨rfl, ?_⟩
      split
      · fail "dr"
        exact ⟨rfl, rfl, rfl⟩
      · exact ⟨rfl, rfl⟩
  · rw [List.map_id, List.filter_map, List.filter_congr (p := adQ cs ∘ adDp) (q := fitB cs) (fun a _ => adQ_ad cs a)]
    exact q
local macro_rules | `(tactic| fail "du") => `(tactic| ((with_reducible refine' use__law_fits ?h ?_); (case h => exact ⟨by assumption, by omega, by omega⟩)))
/-- a functional: how many bits of both, by two -/
def phi (f v : Nat) : Nat := (HBt.nums (v &&& f)).length % 2
theorem phi_lt (f v : Nat) : phi f v < 2 := Nat.mod_lt _ (by decide)
theorem count_xor (p q : Nat → Bool) : ∀ l : List Nat, (l.countP fun i => p i ^^ q i) % 2 = (l.countP p + l.countP q) % 2
  | [] => rfl
  | x :: l => by
    have ih := count_xor p q l
    rw [List.countP_cons, List.countP_cons, List.countP_cons]
    cases p x <;> cases q x <;> simp <;> omega
theorem xor_bits {a b : Nat} (ha : a < 2) (hb : b < 2) : a ^^^ b = (a + b) % 2 := by
  rcases (show a = 0 ∨ a = 1 by omega) with rfl | rfl <;> rcases (show b = 0 ∨ b = 1 by omega) with rfl | rfl <;> rfl
theorem phi_count (f v : Nat) : phi f v = ((List.range 64).countP fun i => v.testBit i && f.testBit i) % 2 := by
  unfold phi HBt.nums
  rw [← List.countP_eq_length_filter]
  congr 2
  funext i
  exact Nat.testBit_and v f i
theorem phi_xor (f a b : Nat) : phi f (a ^^^ b) = phi f a ^^^ phi f b := by
  rw [xor_bits (phi_lt f a) (phi_lt f b), phi_count, phi_count, phi_count, ← Nat.add_mod, ← count_xor]
  congr 2
  funext i
  rw [Nat.testBit_xor]
  cases a.testBit i <;> cases b.testBit i <;> cases f.testBit i <;> rfl
theorem phi_zero (f : Nat) : phi f 0 = 0 := by
  rw [phi_count]
  have e : (fun i : Nat => (0 : Nat).testBit i && f.testBit i) = fun _ => false := by funext i; rw [Nat.zero_testBit]; rfl
  rw [e, List.countP_false]
  rfl
theorem count_eq (k : Nat) (b : Bool) : ∀ n : Nat, ((List.range n).countP fun i => decide (i = k) && b) = if k < n then b.toNat else 0
  | 0 => by simp
  | n + 1 => by
    rw [List.range_succ, List.countP_append, count_eq k b n, List.countP_singleton]
    by_cases h : k < n
    · rw [if_pos h, if_pos (show k < n + 1 by omega), decide_eq_false (show ¬ n = k by omega)]; simp
    · by_cases e : n = k
      · subst e; rw [if_neg h, if_pos (show n < n + 1 by omega)]; cases b <;> simp
      · rw [if_neg h, if_neg (show ¬ k < n + 1 by omega), decide_eq_false e]; simp
theorem phi_or {f k : Nat} (v : Nat) (hf : f.testBit k = false) (hk : k < 64) : phi (f ||| 2 ^ k) v = (phi f v + (v.testBit k).toNat) % 2 := by
  have e : (fun i : Nat => v.testBit i && (f ||| 2 ^ k).testBit i) = fun i => (v.testBit i && f.testBit i) ^^ (decide (i = k) && v.testBit k) := by
    funext i
    rw [Nat.testBit_or]
    by_cases hi : i = k
    · subst hi; rw [hf, Nat.testBit_two_pow_self]; simp
    · rw [Nat.testBit_two_pow_of_ne (fun z => hi z.symm), decide_eq_false hi]; simp
  rw [phi_count, phi_count, e, count_xor, count_eq, if_pos hk, Nat.mod_add_mod]
theorem addR_bits : ∀ {b : List HGf.Q4} {k : Nat}, HGf.Tri b → (addR b).testBit k = true → ∃ q ∈ b, q.h = 2 ^ k
  | [], k, _, h => by rw [addR, Nat.zero_testBit] at h; cases h
  | q :: b, k, ⟨⟨j, h1, _, _⟩, t⟩, h => by
    rw [addR] at h
    split at h
    · obtain ⟨p, hp, e⟩ := addR_bits t h
      exact ⟨p, List.mem_cons_of_mem _ hp, e⟩
    · rw [Nat.testBit_or] at h
      cases e : (addR b).testBit k with
      | true =>
        obtain ⟨p, hp, e⟩ := addR_bits t e
        exact ⟨p, List.mem_cons_of_mem _ hp, e⟩
      | false =>
        rw [e, Bool.false_or, h1] at h
        have : j = k := by
          by_cases z : j = k
          · exact z
          · rw [Nat.testBit_two_pow_of_ne z] at h; cases h
        subst this
        exact ⟨q, List.mem_cons_self .., h1⟩
theorem tri_head {b : List HGf.Q4} : HGf.Tri b → ∀ q ∈ b, ∃ k, q.h = 2 ^ k ∧ q.v.testBit k = true := by
  induction b with
  | nil => intro _ q hq; cases hq
  | cons p b ih =>
    rintro ⟨⟨k, h1, h2, _⟩, t⟩ q hq
    rcases List.mem_cons.mp hq with rfl | hq
    · exact ⟨k, h1, h2⟩
    · exact ih t q hq
theorem bit_lt {v k n : Nat} (hv : v < 2 ^ n) (h : v.testBit k = true) : k < n := by
  rcases Nat.lt_or_ge k n with z | z
  · exact z
  · rw [HGf.bit_hi hv z] at h; cases h
theorem addR_fit : ∀ {b : List HGf.Q4}, HGf.Tri b → (∀ q ∈ b, q.v < 2 ^ 20 ∧ q.o < 2) → ∀ q ∈ b, phi (addR b) q.v = q.o
  | [], _, _, q, hq => by cases hq
  | p :: b, ⟨⟨k, h1, h2, h3⟩, t⟩, hb, q, hq => by
    have hb' : ∀ q ∈ b, q.v < 2 ^ 20 ∧ q.o < 2 := fun q hq => hb q (List.mem_cons_of_mem _ hq)
    have ih := addR_fit t hb'
    have hk : k < 20 := bit_lt (hb p (List.mem_cons_self ..)).1 h2
    have hf : (addR b).testBit k = false := by
      cases e : (addR b).testBit k with
      | false => rfl
      | true =>
        obtain ⟨r, hr, er⟩ := addR_bits t e
        obtain ⟨j, j1, j2⟩ := tri_head t r hr
        rw [er] at j1
        rw [← HGf.pow_inj j1, h3 r hr] at j2
        cases j2
    rw [addR]
    by_cases he : (HBt.nums (p.v &&& addR b)).length % 2 = p.o
    · rw [if_pos he]
      rcases List.mem_cons.mp hq with rfl | hq
      · exact he
      · exact ih q hq
    · rw [if_neg he, h1, phi_or _ hf (by omega)]
      rcases List.mem_cons.mp hq with rfl | hq
      · rw [h2]
        have a := phi_lt (addR b) q.v
        have c := (hb q (List.mem_cons_self ..)).2
        have d : ¬ phi (addR b) q.v = q.o := he
        show (phi (addR b) q.v + 1) % 2 = q.o
        omega
      · rw [h3 q hq]
        have a := phi_lt (addR b) q.v
        show (phi (addR b) q.v + 0) % 2 = q.o
        rw [Nat.add_zero, Nat.mod_eq_of_lt a]
        exact ih q hq
theorem sp_phi {f : Nat} : ∀ {b : List HGf.Q4} {v l o : Nat}, (∀ q ∈ b, phi f q.v = q.o) → HGf.Sp b v l o → phi f v = o
  | [], _, _, _, _, ⟨h1, _, h3⟩ => by subst h1 h3; exact phi_zero f
  | q :: b, v, _, _, hb, h => by
    rcases h with h | h
    · exact sp_phi (fun p hp => hb p (List.mem_cons_of_mem _ hp)) h
    · have := sp_phi (fun p hp => hb p (List.mem_cons_of_mem _ hp)) h
      rw [phi_xor, hb q (List.mem_cons_self ..)] at this
      have := HGf.xor_swap this
      rwa [HGf.xx] at this
/-- the functional gives the cases their outcomes -/
def Fit (f : Nat) (cs : List (List Bool × Bool)) : Prop := ∀ c ∈ cs, phi f (vec c.1) = c.2.toNat
def vsOf (cs : List (List Bool × Bool)) : List Nat := cs.map fun c => vec c.1
def osOf (cs : List (List Bool × Bool)) : List Nat := cs.map fun c => c.2.toNat
theorem Fit.X {f : Nat} {cs : List (List Bool × Bool)} (h : Fit f cs) (z : Nat) : phi f (HGf.X z 0 (vsOf cs)) = HGf.X z 0 (osOf cs) := by
  rw [HGf.X_map (f := phi f) (phi_zero f) (phi_xor f), vsOf, osOf, List.map_map]
  congr 1
  exact List.map_congr_left fun c hc => h c hc
theorem X_small (z : Nat) : ∀ (k : Nat) (O : List Nat), (∀ o ∈ O, o < 2) → HGf.X z k O < 2
  | _, [], _ => by show (0 : Nat) < 2; decide
  | k, o :: O, h => by
    rw [HGf.X]
    refine Nat.xor_lt_two_pow (n := 1) ?_ (X_small z (k + 1) O fun p hp => h p (List.mem_cons_of_mem _ hp))
    split
    · exact h o (List.mem_cons_self ..)
    · decide
/-- the walk along cases: a base of them all, or a lot that is torn -/
def BRes (V O : List Nat) : List HGf.Q4 × Option Nat → Prop
  | (b', none) => ∃ F', HGf.BI b' V O F'
  | (_, some q) => q < 2 ^ V.length ∧ HGf.X q 0 V = 0 ∧ HGf.X q 0 O ≠ 0
theorem base_BI : ∀ (cs : List (List Bool × Bool)) {n : Nat} {b : List HGf.Q4} {V O : List Nat} {F : Nat}, HGf.BI b V O F → n = V.length →
    BRes (V ++ vsOf cs) (O ++ osOf cs) (baseF n (vcs cs) b)
  | [], n, b, V, O, F, B, hn => by
    show ∃ F', HGf.BI b (V ++ []) (O ++ []) F'
    rw [List.append_nil, List.append_nil]; exact ⟨F, B⟩
  | c :: cs, n, b, V, O, F, B, hn => by
    have eV : V ++ vsOf (c :: cs) = (V ++ [vec c.1]) ++ vsOf cs := by rw [List.append_assoc]; rfl
    have eO : O ++ osOf (c :: cs) = (O ++ [c.2.toNat]) ++ osOf cs := by rw [List.append_assoc]; rfl
    rw [eV, eO, vcs, List.map_cons, baseF]
    subst hn
    by_cases h : (HGf.red b (vec c.1) 0 0).1 = 0
    · rw [if_pos h]
      by_cases h2 : (HGf.red b (vec c.1) 0 0).2.2 = c.2.toNat
      · rw [if_pos h2]
        exact base_BI cs (B.same h h2) (by rw [List.length_append]; rfl)
      · rw [if_neg h2]
        have s := HGf.red_zero B.tri h
        obtain ⟨e1, e2, e3⟩ := B.sp s
        have hl := B.lot_lt e3
        have hq : (HGf.red b (vec c.1) 0 0).2.1 ^^^ 2 ^ V.length < 2 ^ (V ++ [vec c.1]).length := by
          rw [List.length_append]
          exact Nat.xor_lt_two_pow (Nat.lt_of_lt_of_le hl (Nat.pow_le_pow_right (by decide) (Nat.le_succ _))) (Nat.pow_lt_pow_right (by decide) (Nat.lt_succ_self _))
        have hlen : (V ++ [vec c.1]).length = (O ++ [c.2.toNat]).length := by rw [List.length_append, List.length_append, B.len]; rfl
        refine ⟨Nat.lt_of_lt_of_le hq (Nat.pow_le_pow_right (by decide) (by rw [List.length_append (as := V ++ [vec c.1])]; omega)), ?_, ?_⟩
        · rw [HGf.X_low' hq, HGf.X_xor, HGf.X_low hl, ← e1, HGf.X_top, Nat.xor_self]
        · have hl2 : (HGf.red b (vec c.1) 0 0).2.1 < 2 ^ O.length := by rw [← B.len]; exact hl
          rw [HGf.X_low' (by rw [← hlen]; exact hq), HGf.X_xor, HGf.X_low hl2, ← e2, B.len, HGf.X_top]
          exact fun z => h2 (HGf.xor_eq0 z)
    · rw [if_neg h]
      exact base_BI cs (B.wide h) (by rw [List.length_append]; rfl)
theorem base0 (cs : List (List Bool × Bool)) : BRes (vsOf cs) (osOf cs) (baseF 0 (vcs cs) []) := base_BI cs HGf.BI.nil rfl
theorem base_none {cs : List (List Bool × Bool)} {b : List HGf.Q4} (h : baseF 0 (vcs cs) [] = (b, none)) : ∃ F, HGf.BI b (vsOf cs) (osOf cs) F := by
  have := base0 cs
  rw [h] at this
  exact this
theorem base_some {cs : List (List Bool × Bool)} {b : List HGf.Q4} {q : Nat} (h : baseF 0 (vcs cs) [] = (b, some q)) : q < 2 ^ cs.length ∧ HGf.X q 0 (vsOf cs) = 0 ∧ HGf.X q 0 (osOf cs) ≠ 0 := by
  have := base0 cs
  rw [h] at this
  obtain ⟨h1, h2⟩ := this
  rw [vsOf, List.length_map] at h1
  exact ⟨h1, h2⟩
theorem fit_none {cs : List (List Bool × Bool)} {f : Nat} (h : Fit f cs) : ∃ b, baseF 0 (vcs cs) [] = (b, none) := by
  cases e : baseF 0 (vcs cs) [] with
  | mk b x =>
    cases x with
    | none => exact ⟨b, rfl⟩
    | some q =>
      obtain ⟨_, h1, h2⟩ := base_some e
      have := h.X q
      rw [h1, phi_zero] at this
      exact absurd this.symm h2
theorem os_small (cs : List (List Bool × Bool)) : ∀ o ∈ osOf cs, o < 2 := fun o ho => by
  obtain ⟨c, _, rfl⟩ := List.mem_map.mp ho
  cases c.2 <;> decide
theorem bi_fit {b : List HGf.Q4} {V O : List Nat} {F : Nat} (B : HGf.BI b V O F) (hv : ∀ q ∈ b, q.v < 2 ^ 20) (ho : ∀ o ∈ O, o < 2) : ∀ (i v o : Nat), V[i]? = some v → O[i]? = some o → phi (addR b) v = o := fun i v o h1 h2 => by
  obtain ⟨l, s⟩ := B.all i v o h1 h2
  exact sp_phi (addR_fit B.tri fun q hq => ⟨hv q hq, by rw [(B.el q hq).2.1]; exact X_small _ _ _ ho⟩) s
theorem base_fit {p : Nat} {cs : List (List Bool × Bool)} {b : List HGf.Q4} (hb : BookOk p cs) (h : baseF 0 (vcs cs) [] = (b, none)) : Fit (addR b) cs := fun c hc => by
  obtain ⟨F, B⟩ := base_none h
  obtain ⟨_, h2, _⟩ := base_all hb
  rw [h] at h2
  obtain ⟨i, hi⟩ := List.getElem?_of_mem hc
  exact bi_fit B (fun q hq => Nat.lt_of_lt_of_le (h2 q hq) (by decide)) (os_small cs) i _ _ (by rw [vsOf, List.getElem?_map, hi]; rfl) (by rw [osOf, List.getElem?_map, hi]; rfl)
theorem addR_congr {x o l m : Nat} (b : List HGf.Q4) : addR (b ++ [newQ x l o]) = addR (b ++ [newQ x m o]) := by
  induction b with
  | nil => rfl
  | cons q b ih => rw [List.cons_append, List.cons_append, addR, addR, ih]
/-- a forced row: every functional that fits gives it the outcome -/
theorem forced_phi {cs : List (List Bool × Bool)} {b : List HGf.Q4} {v : Nat} (h : baseF 0 (vcs cs) [] = (b, none)) (h0 : (HGf.red b v 0 0).1 = 0) {f : Nat} (hf : Fit f cs) : phi f v = (HGf.red b v 0 0).2.2 := by
  obtain ⟨F, B⟩ := base_none h
  obtain ⟨e1, _, _, e4, _⟩ := B.forced h0
  rw [← e4, ← hf.X, e1]
/-- an open row: two functionals that fit part on it -/
theorem open_phi {p : Nat} {cs : List (List Bool × Bool)} {b : List HGf.Q4} {v : Nat} (hb : BookOk p cs) (h : baseF 0 (vcs cs) [] = (b, none)) (hv : v < 2 ^ 7) (h0 : (HGf.red b v 0 0).1 ≠ 0) {o : Nat} (ho : o < 2) :
    Fit (addR (b ++ [newQ (HGf.red b v 0 0).1 (HGf.red b v 0 0).2.1 ((HGf.red b v 0 0).2.2 ^^^ o)])) cs ∧ phi (addR (b ++ [newQ (HGf.red b v 0 0).1 (HGf.red b v 0 0).2.1 ((HGf.red b v 0 0).2.2 ^^^ o)])) v = o := by
  obtain ⟨F, B⟩ := base_none h
  obtain ⟨_, h2, _⟩ := base_all hb
  rw [h] at h2
  have W := B.wide (v := v) (o := o) h0
  have hV : ∀ q ∈ b ++ [newQ (HGf.red b v 0 0).1 ((HGf.red b v 0 0).2.1 ^^^ 2 ^ (vsOf cs).length) ((HGf.red b v 0 0).2.2 ^^^ o)], q.v < 2 ^ 20 := fun q hq => Nat.lt_of_lt_of_le (VcLt.new h2 (red_vc h2 hv) q hq) (by decide)
  have hO : ∀ x ∈ osOf cs ++ [o], x < 2 := fun x hx => by
    rcases List.mem_append.mp hx with hx | hx
    · exact os_small cs x hx
    · rw [List.mem_singleton.mp hx]; exact ho
  have fit := bi_fit W hV hO
  rw [addR_congr (m := (HGf.red b v 0 0).2.1 ^^^ 2 ^ (vsOf cs).length) b]
  refine ⟨fun c hc => ?_, ?_⟩
  · obtain ⟨i, hi⟩ := List.getElem?_of_mem hc
    exact fit i _ _ (HGf.at_left (by rw [vsOf, List.getElem?_map, hi]; rfl)) (HGf.at_left (by rw [osOf, List.getElem?_map, hi]; rfl))
  · refine fit cs.length v o ?_ ?_
    · have : (vsOf cs).length = cs.length := by rw [vsOf, List.length_map]
      rw [← this]; simp
    · have : (osOf cs).length = cs.length := by rw [osOf, List.length_map]
      rw [← this]; simp
/-! counting the functionals that fit -/
theorem perm_of {α : Type} [DecidableEq α] : ∀ {xs ys : List α}, xs.Nodup → (∀ x ∈ xs, x ∈ ys) → ys.length ≤ xs.length → xs.Perm ys
  | [], ys, _, _, h => by
    have : ys = [] := List.eq_nil_of_length_eq_zero (by simpa using h)
    rw [this]
  | x :: xs, ys, hn, hs, hl => by
    have hx : x ∈ ys := hs x (List.mem_cons_self ..)
    obtain ⟨hx1, hn2⟩ := List.nodup_cons.mp hn
    have ih : xs.Perm (ys.erase x) := perm_of hn2 (fun y hy => (List.mem_erase_of_ne (fun e => hx1 (by rw [← e]; exact hy))).mpr (hs y (List.mem_cons_of_mem _ hy))) (by rw [List.length_erase_of_mem hx]; rw [List.length_cons] at hl; omega)
    exact (ih.cons x).trans (List.perm_cons_erase hx).symm
theorem vec_bit : ∀ (r : List Bool) {i : Nat}, i < r.length → (vec r).testBit i = r.getD i false
  | [], _, h => by cases h
  | b :: r, 0, _ => by
    rw [vec, Nat.testBit_zero]
    cases b <;> simp <;> omega
  | b :: r, i + 1, h => by
    rw [vec, Nat.testBit_succ]
    have e : (b.toNat + 2 * vec r) / 2 = vec r := by cases b <;> simp <;> omega
    rw [e, vec_bit r (by simpa using h)]
    rfl
theorem vec_top : ∀ r : List Bool, (vec r).testBit r.length = true
  | [] => by decide
  | b :: r => by
    have h := vec_top r
    rw [vec, List.length_cons, Nat.testBit_succ]
    have e : (b.toNat + 2 * vec r) / 2 = vec r := by cases b <;> simp <;> omega
    rw [e, h]
theorem count_low {f v m : Nat} (hv : v < 2 ^ m) : ∀ k : Nat, ((List.range (m + k)).countP fun i => v.testBit i && f.testBit i) = (List.range m).countP fun i => v.testBit i && f.testBit i
  | 0 => rfl
  | k + 1 => by
    rw [show m + (k + 1) = m + k + 1 by omega, List.range_succ, List.countP_append, count_low hv k, List.countP_singleton, HGf.bit_hi hv (Nat.le_add_right m k)]
    rfl
theorem phi_low {f v m : Nat} (hv : v < 2 ^ m) (hm : m ≤ 64) : phi f v = ((List.range m).countP fun i => v.testBit i && f.testBit i) % 2 := by
  rw [phi_count, show 64 = m + (64 - m) by omega, count_low hv]
theorem phi_mod {f v m : Nat} (hv : v < 2 ^ m) (hm : m ≤ 64) : phi (f % 2 ^ m) v = phi f v := by
  rw [phi_low hv hm, phi_low hv hm]
  congr 1
  refine List.countP_congr fun i hi => ?_
  have hi := List.mem_range.mp hi
  rw [Nat.testBit_mod_two_pow, decide_eq_true hi, Bool.true_and]
theorem phi_xorf (f g v : Nat) : phi (f ^^^ g) v = phi f v ^^^ phi g v := by
  rw [xor_bits (phi_lt f v) (phi_lt g v), phi_count, phi_count, phi_count, ← Nat.add_mod, ← count_xor]
  congr 2
  funext i
  rw [Nat.testBit_xor]
  cases v.testBit i <;> cases f.testBit i <;> cases g.testBit i <;> rfl
theorem sum_fil (g q : Nat → Bool) : ∀ l : List Nat, ((l.filter q).map fun a => (g a).toNat).sum = l.countP fun i => g i && q i
  | [] => rfl
  | x :: l => by
    have ih := sum_fil g q l
    rw [List.filter_cons, List.countP_cons]
    cases hq : q x with
    | true =>
      rw [if_pos rfl, List.map_cons, List.sum_cons, ih]
      cases g x <;> simp <;> omega
    | false =>
      rw [if_neg Bool.false_ne_true, ih]
      simp
/-- the adder of a functional -/
def adOf (p f : Nat) : List Nat × Bool := (plc p f, f.testBit p)
theorem gv_phi {p f : Nat} {r : List Bool} (hr : r.length = p) (hp : p ≤ 6) : gv (plc p f) (f.testBit p) r = phi f (vec r) := by
  have hv : vec r < 2 ^ (p + 1) := by rw [← hr]; exact vec_lt r
  rw [phi_low hv (by omega), List.range_succ, List.countP_append, List.countP_singleton, gv, plc, sum_fil (fun a => r.getD a false)]
  have e1 : ((List.range p).countP fun i => (vec r).testBit i && f.testBit i) = (List.range p).countP fun i => r.getD i false && f.testBit i := by
    refine List.countP_congr fun i hi => ?_
    have hi := List.mem_range.mp hi
    rw [vec_bit r (by omega)]
  have e2 := vec_top r
  rw [hr] at e2
  rw [e1, e2, Bool.true_and]
  cases f.testBit p <;> simp [Nat.add_comm]
/-- a functional that gives the cases their outcomes -/
def fitF (cs : List (List Bool × Bool)) (f : Nat) : Bool := cs.all fun c => decide (phi f (vec c.1) = c.2.toNat)
theorem fitF_iff {cs : List (List Bool × Bool)} {f : Nat} : fitF cs f = true ↔ Fit f cs := by
  rw [fitF, List.all_eq_true]
  exact ⟨fun h c hc => of_decide_eq_true (h c hc), fun h c hc => decide_eq_true (h c hc)⟩
theorem fitB_of {p f : Nat} {cs : List (List Bool × Bool)} (h : ∀ c ∈ cs, c.1.length = p) (hp : p ≤ 6) : fitB cs (adOf p f) = fitF cs f := by
  induction cs with
  | nil => rfl
  | cons c cs ih =>
    rw [fitB, fitF, List.all_cons, List.all_cons, adOf]
    dsimp only
    rw [gv_phi (h c (List.mem_cons_self ..)) hp]
    congr 1
    exact ih fun d hd => h d (List.mem_cons_of_mem _ hd)
def bitsR (p f : Nat) : List Bool := (List.range p).map fun i => f.testBit i
theorem bitsR_len (p f : Nat) : (bitsR p f).length = p := by rw [bitsR, List.length_map, List.length_range]
theorem lotOf_bits (p f : Nat) : lotOf (bitsR p f) = plc p f := by
  rw [lotOf, bitsR_len, plc]
  refine List.filter_congr fun i hi => ?_
  have hi := List.mem_range.mp hi
  rw [bitsR, List.getD_eq_getElem?_getD, List.getElem?_map, List.getElem?_range hi]
  rfl
theorem rows_all : ∀ (p : Nat) {r : List Bool}, r.length = p → r ∈ rowsL p
  | 0, r, h => by
    have : r = [] := List.eq_nil_of_length_eq_zero h
    rw [this]; exact List.mem_cons_self ..
  | p + 1, r, h => by
    have hne : r ≠ [] := fun e => by rw [e] at h; cases h
    rw [rowsL_succ]
    refine List.mem_flatMap.mpr ⟨r.dropLast, rows_all p (by rw [List.length_dropLast, h]; rfl), ?_⟩
    have e := List.dropLast_concat_getLast hne
    rw [twoR]
    cases hb : r.getLast hne with
    | false => rw [hb] at e; rw [e]; exact List.mem_cons_self ..
    | true => rw [hb] at e; rw [e]; exact List.mem_cons_of_mem _ (List.mem_cons_self ..)
theorem bits_inj {p f g : Nat} (hf : f < 2 ^ p) (hg : g < 2 ^ p) (h : bitsR p f = bitsR p g) : f = g := by
  refine Nat.eq_of_testBit_eq fun i => ?_
  rcases Nat.lt_or_ge i p with z | z
  · have e := congrArg (fun r => r[i]?) h
    simp only [bitsR, List.getElem?_map] at e
    rw [List.getElem?_range z] at e
    exact Option.some.inj e
  · rw [HGf.bit_hi hf z, HGf.bit_hi hg z]
theorem rows_perm (p : Nat) : ((List.range (2 ^ p)).map (bitsR p)).Perm (rowsL p) := by
  refine perm_of ?_ (fun r hr => ?_) ?_
  · refine List.pairwise_map.mpr (List.Pairwise.imp_of_mem (fun {a b} ha hb hab he => ?_) List.nodup_range)
    exact hab (bits_inj (List.mem_range.mp ha) (List.mem_range.mp hb) he)
  · obtain ⟨f, _, rfl⟩ := List.mem_map.mp hr
    exact rows_all p (bitsR_len p f)
  · rw [rowsL_len, List.length_map, List.length_range]; exact Nat.le_refl _
theorem lots_perm (p : Nat) : (lotsS p).Perm ((List.range (2 ^ p)).map (plc p)) := by
  refine (lotsS_perm p).trans (((rows_perm p).map lotOf).symm.trans (List.Perm.of_eq ?_))
  rw [List.map_map]
  exact List.map_congr_left fun f _ => lotOf_bits p f
theorem both_perm : ∀ ls : List (List Nat), (ls.flatMap bothA).Perm (ls.map (fun l => (l, false)) ++ ls.map fun l => (l, true))
  | [] => .nil
  | l :: ls => by
    rw [List.flatMap_cons, bothA, List.map_cons, List.map_cons, List.cons_append, List.cons_append, List.cons_append, List.nil_append]
    exact ((both_perm ls).cons (l, true)).trans (List.perm_middle.symm) |>.cons (l, false)
theorem adP_perm (p : Nat) : (adP p).Perm ((List.range (2 ^ (p + 1))).map (adOf p)) := by
  have h1 : (adP p).Perm (((List.range (2 ^ p)).map (plc p)).flatMap bothA) := (lots_perm p).flatMap_right bothA
  refine h1.trans ((both_perm _).trans (List.Perm.of_eq ?_))
  rw [Nat.pow_succ, Nat.mul_two, List.range_add, List.map_append, List.map_map, List.map_map, List.map_map]
  congr 1
  · refine List.map_congr_left fun f hf => ?_
    have hf := List.mem_range.mp hf
    show (plc p f, false) = (plc p f, f.testBit p)
    rw [HGf.bit_hi hf (Nat.le_refl p)]
  · refine List.map_congr_left fun f hf => ?_
    have hf := List.mem_range.mp hf
    show (plc p f, true) = (plc p (2 ^ p + f), (2 ^ p + f).testBit p)
    rw [HGf.add_xor hf]
    congr 1
    · unfold plc
      refine List.filter_congr fun i hi => ?_
      have hi := List.mem_range.mp hi
      rw [Nat.testBit_xor, Nat.testBit_two_pow_of_ne (by omega), Bool.xor_false]
    · rw [Nat.testBit_xor, HGf.bit_hi hf (Nat.le_refl p), Nat.testBit_two_pow_self]; rfl
/-- how many functionals fit -/
def cnt (p : Nat) (cs : List (List Bool × Bool)) : Nat := (List.range (2 ^ (p + 1))).countP (fitF cs)
theorem fitP_len {p : Nat} {cs : List (List Bool × Bool)} (h : ∀ c ∈ cs, c.1.length = p) (hp : p ≤ 6) : (fitP p cs).length = cnt p cs := by
  rw [fitP, ← List.countP_eq_length_filter, (adP_perm p).countP_eq, List.countP_map, cnt]
  exact List.countP_congr fun f _ => by rw [Function.comp_apply, fitB_of h hp]
theorem xor_perm {k e : Nat} (he : e < 2 ^ k) : ((List.range (2 ^ k)).map (· ^^^ e)).Perm (List.range (2 ^ k)) := by
  refine perm_of ?_ (fun r hr => ?_) (by rw [List.length_map]; exact Nat.le_refl _)
  · refine List.pairwise_map.mpr (List.Pairwise.imp (fun {a b} hab h => hab ?_) List.nodup_range)
    have := HGf.xor_swap h
    rwa [HGf.xx] at this
  · obtain ⟨f, hf, rfl⟩ := List.mem_map.mp hr
    exact List.mem_range.mpr (Nat.xor_lt_two_pow (List.mem_range.mp hf) he)
theorem count_half {k e : Nat} (he : e < 2 ^ k) {A g : Nat → Bool} (hA : ∀ f, A (f ^^^ e) = A f) (hg : ∀ f, g (f ^^^ e) = !g f) : 2 * (List.range (2 ^ k)).countP (fun f => A f && g f) = (List.range (2 ^ k)).countP A := by
  have h1 : (List.range (2 ^ k)).countP (fun f => A f && g f) = (List.range (2 ^ k)).countP (fun f => A f && !g f) := by
    rw [← (xor_perm he).countP_eq, List.countP_map]
    refine List.countP_congr fun f _ => ?_
    rw [Function.comp_apply, hA, hg]
  have h2 : ∀ l : List Nat, l.countP A = l.countP (fun f => A f && g f) + l.countP (fun f => A f && !g f) := fun l => by
    induction l with
    | nil => rfl
    | cons x l ih =>
      rw [List.countP_cons, List.countP_cons, List.countP_cons, ih]
      cases A x <;> cases g x <;> simp <;> omega
  have := h2 (List.range (2 ^ k))
  omega
theorem BookOk.sub {p : Nat} {cs cs' : List (List Bool × Bool)} (h : BookOk p cs) (s : cs'.Sublist cs) : BookOk p cs' :=
  ⟨h.p1, h.p6, fun c hc => h.len c (s.subset hc), h.once.sublist (s.map _), Nat.le_trans s.length_le h.few⟩
theorem baseF_app : ∀ (xs : List (Nat × Nat)) (n : Nat) (b : List HGf.Q4) (ys : List (Nat × Nat)), baseF n (xs ++ ys) b = match baseF n xs b with
    | (b', none) => baseF (n + xs.length) ys b'
    | (b', some q) => (b', some q)
  | [], n, b, ys => rfl
  | (v, o) :: xs, n, b, ys => by
    rw [List.cons_append, baseF, baseF]
    split
    · split
      · rw [baseF_app xs (n + 1) b ys, List.length_cons, show n + 1 + xs.length = n + (xs.length + 1) by omega]
      · rfl
    · rw [baseF_app xs (n + 1) _ ys, List.length_cons, show n + 1 + xs.length = n + (xs.length + 1) by omega]
theorem vec_lt7 {p : Nat} {cs : List (List Bool × Bool)} (h : BookOk p cs) {c : List Bool × Bool} (hc : c ∈ cs) : vec c.1 < 2 ^ (p + 1) ∧ vec c.1 < 2 ^ 7 := by
  have h1 := vec_lt c.1
  rw [h.len c hc] at h1
  exact ⟨h1, Nat.lt_of_lt_of_le h1 (Nat.pow_le_pow_right (by decide) (by have := h.p6; omega))⟩
theorem fitF_snoc (cs : List (List Bool × Bool)) (c : List Bool × Bool) (f : Nat) : fitF (cs ++ [c]) f = (fitF cs f && decide (phi f (vec c.1) = c.2.toNat)) := by
  rw [fitF, List.all_append, fitF, List.all_cons, List.all_nil, Bool.and_true]
theorem cnt_base (p : Nat) (cs : List (List Bool × Bool)) : BookOk p cs → ∀ b, baseF 0 (vcs cs) [] = (b, none) → cnt p cs * 2 ^ b.length = 2 ^ (p + 1) := by
  refine HGf.list_snoc (P := fun cs => BookOk p cs → ∀ b, baseF 0 (vcs cs) [] = (b, none) → cnt p cs * 2 ^ b.length = 2 ^ (p + 1)) (fun _ b h => ?_) (fun cs c ih hb b h => ?_) cs
  · cases h
    rw [cnt, List.length_nil, Nat.pow_zero, Nat.mul_one]
    have : (fitF []) = fun _ => true := rfl
    rw [this, List.countP_true, List.length_range]
  · have hb1 : BookOk p cs := hb.sub (List.sublist_append_left _ _)
    have hmem : c ∈ cs ++ [c] := List.mem_append_right _ (List.mem_cons_self ..)
    obtain ⟨hv, hv7⟩ := vec_lt7 hb hmem
    have hc2 : c.2.toNat < 2 := by cases c.2 <;> decide
    rw [vcs, List.map_append, baseF_app] at h
    change (match baseF 0 (vcs cs) [] with
      | (b', none) => baseF (0 + (vcs cs).length) [(vec c.1, c.2.toNat)] b'
      | (b', some q) => (b', some q)) = (b, none) at h
    cases e : baseF 0 (vcs cs) [] with
    | mk b' x =>
      rw [e] at h
      cases x with
      | some q => cases h
      | none =>
        dsimp only at h
        have ih := ih hb1 b' e
        rw [baseF] at h
        by_cases h0 : (HGf.red b' (vec c.1) 0 0).1 = 0
        · rw [if_pos h0] at h
          by_cases h1 : (HGf.red b' (vec c.1) 0 0).2.2 = c.2.toNat
          · rw [if_pos h1, baseF] at h
            cases h
            rw [← ih]
            congr 1
            refine List.countP_congr fun f _ => ?_
            rw [fitF_snoc]
            cases hf : fitF cs f with
            | false => rfl
            | true =>
              rw [forced_phi e h0 (fitF_iff.mp hf), decide_eq_true h1]; rfl
          · rw [if_neg h1] at h; cases h
        · rw [if_neg h0, baseF] at h
          cases h
          obtain ⟨f0, g0⟩ := open_phi hb1 e hv7 h0 (o := 0) (by decide)
          obtain ⟨f1, g1⟩ := open_phi hb1 e hv7 h0 (o := 1) (by decide)
          generalize addR (b' ++ [newQ (HGf.red b' (vec c.1) 0 0).1 (HGf.red b' (vec c.1) 0 0).2.1 ((HGf.red b' (vec c.1) 0 0).2.2 ^^^ 0)]) = F0 at f0 g0
          generalize addR (b' ++ [newQ (HGf.red b' (vec c.1) 0 0).1 (HGf.red b' (vec c.1) 0 0).2.1 ((HGf.red b' (vec c.1) 0 0).2.2 ^^^ 1)]) = F1 at f1 g1
          have hp1 : p + 1 ≤ 64 := by have := hb.p6; omega
          have key := count_half (k := p + 1) (e := (F0 ^^^ F1) % 2 ^ (p + 1)) (Nat.mod_lt _ (Nat.two_pow_pos _)) (A := fitF cs) (g := fun f => decide (phi f (vec c.1) = c.2.toNat)) (fun f => ?_) (fun f => ?_)
          · rw [List.length_append, List.length_singleton, Nat.pow_succ, ← ih]
            have e2 : cnt p (cs ++ [c]) = (List.range (2 ^ (p + 1))).countP fun f => fitF cs f && decide (phi f (vec c.1) = c.2.toNat) := List.countP_congr fun f _ => by rw [fitF_snoc]
            rw [e2, show cnt p cs = (List.range (2 ^ (p + 1))).countP (fitF cs) from rfl, ← key, Nat.mul_comm (2 ^ b'.length) 2, ← Nat.mul_assoc, Nat.mul_comm _ 2]
          · have : ∀ d ∈ cs, phi (f ^^^ (F0 ^^^ F1) % 2 ^ (p + 1)) (vec d.1) = phi f (vec d.1) := fun d hd => by
              rw [phi_xorf, phi_mod (vec_lt7 hb1 hd).1 hp1, phi_xorf, f0 d hd, f1 d hd, Nat.xor_self, Nat.xor_zero]
            rw [fitF, fitF, Bool.eq_iff_iff, List.all_eq_true, List.all_eq_true]
            exact ⟨fun z d hd => by rw [← this d hd]; exact z d hd, fun z d hd => by rw [this d hd]; exact z d hd⟩
          · rw [phi_xorf, phi_mod hv hp1, phi_xorf, g0, g1, ← decide_not]
            have a := phi_lt f (vec c.1)
            refine decide_eq_decide.mpr ?_
            rcases (show phi f (vec c.1) = 0 ∨ phi f (vec c.1) = 1 by omega) with z | z <;> rw [z] <;> rcases (show c.2.toNat = 0 ∨ c.2.toNat = 1 by omega) with y | y <;> rw [y] <;> decide
theorem fitP_mem {p : Nat} {cs : List (List Bool × Bool)} {a : List Nat × Bool} : a ∈ fitP p cs ↔ a ∈ adP p ∧ fitB cs a = true := List.mem_filter
theorem fitP_one {p : Nat} {cs : List (List Bool × Bool)} (hb : BookOk p cs) {a : List Nat × Bool} (h : a ∈ fitP p cs) : ∃ b, baseF 0 (vcs cs) [] = (b, none) := by
  obtain ⟨h1, h2⟩ := fitP_mem.mp h
  obtain ⟨f, _, rfl⟩ := List.mem_map.mp ((adP_perm p).mem_iff.mp h1)
  rw [fitB_of hb.len hb.p6] at h2
  exact fit_none (fitF_iff.mp h2)
theorem fitP_eq {p : Nat} {cs : List (List Bool × Bool)} {b : List HGf.Q4} (hb : BookOk p cs) (e : baseF 0 (vcs cs) [] = (b, none)) : (fitP p cs).length * 2 ^ b.length = 2 ^ (p + 1) := by
  rw [fitP_len hb.len hb.p6]; exact cnt_base p cs hb b e
theorem fitP_none {p : Nat} {cs : List (List Bool × Bool)} {b : List HGf.Q4} {x : Nat} (hb : BookOk p cs) (e : baseF 0 (vcs cs) [] = (b, some x)) : fitP p cs = [] := by
  refine List.eq_nil_iff_forall_not_mem.mpr fun a ha => ?_
  obtain ⟨b', e'⟩ := fitP_one hb ha
  rw [e] at e'; cases e'
theorem fitP_some {p : Nat} {cs : List (List Bool × Bool)} {b : List HGf.Q4} (hb : BookOk p cs) (e : baseF 0 (vcs cs) [] = (b, none)) : 0 < (fitP p cs).length := by
  refine Nat.pos_of_ne_zero fun z => ?_
  have := fitP_eq hb e
  rw [z, Nat.zero_mul] at this
  have := Nat.two_pow_pos (p + 1)
  omega
/-- a book, and one that has its cases; both possible -/
structure Step (p : Nat) (c1 c2 : List (List Bool × Bool)) (b1 b2 : List HGf.Q4) : Prop where
  k1 : BookOk p c1
  k2 : BookOk p c2
  e1 : baseF 0 (vcs c1) [] = (b1, none)
  e2 : baseF 0 (vcs c2) [] = (b2, none)
  sub : ∀ c ∈ c1, c ∈ c2
section
variable {p : Nat} {c1 c2 : List (List Bool × Bool)} {b1 b2 : List HGf.Q4}
theorem Step.fit (S : Step p c1 c2 b1 b2) {f : Nat} (h : Fit f c2) : Fit f c1 := fun c hc => h c (S.sub c hc)
theorem Step.forced (S : Step p c1 c2 b1 b2) {v : Nat} (hv : v < 2 ^ 7) (h : (HGf.red b1 v 0 0).1 = 0) : (HGf.red b2 v 0 0).1 = 0 ∧ (HGf.red b2 v 0 0).2.2 = (HGf.red b1 v 0 0).2.2 := by
  have h2 : (HGf.red b2 v 0 0).1 = 0 := Decidable.byContradiction fun h0 => by
    obtain ⟨f0, g0⟩ := open_phi S.k2 S.e2 hv h0 (o := 0) (by decide)
    obtain ⟨f1, g1⟩ := open_phi S.k2 S.e2 hv h0 (o := 1) (by decide)
    have a0 := forced_phi S.e1 h (S.fit f0)
    have a1 := forced_phi S.e1 h (S.fit f1)
    omega
  refine ⟨h2, ?_⟩
  have f := base_fit S.k2 S.e2
  rw [← forced_phi S.e1 h (S.fit f), ← forced_phi S.e2 h2 f]
theorem Step.fewer (S : Step p c1 c2 b1 b2) {a : List Nat × Bool} (h : a ∈ fitP p c2) : a ∈ fitP p c1 := by
  obtain ⟨h1, h2⟩ := fitP_mem.mp h
  refine fitP_mem.mpr ⟨h1, ?_⟩
  unfold fitB at h2 ⊢
  rw [List.all_eq_true] at h2 ⊢
  exact fun c hc => h2 c (S.sub c hc)
theorem Step.lens (S : Step p c1 c2 b1 b2) : b1.length ≤ b2.length ∧ b2.length ≤ p + 1 := by
  have n1 := cnt_base p c1 S.k1 b1 S.e1
  have n2 := cnt_base p c2 S.k2 b2 S.e2
  have le : cnt p c2 ≤ cnt p c1 := List.countP_mono_left fun f _ h => fitF_iff.mpr (S.fit (fitF_iff.mp h))
  have pos : 0 < cnt p c2 := Nat.pos_of_ne_zero fun z => by
    rw [z, Nat.zero_mul] at n2
    have := Nat.two_pow_pos (p + 1)
    omega
  constructor
  · refine Decidable.byContradiction fun h => ?_
    have h3 : 2 ^ b2.length < 2 ^ b1.length := Nat.pow_lt_pow_right (by decide) (by omega)
    have h4 : cnt p c2 * 2 ^ b2.length < cnt p c1 * 2 ^ b1.length := Nat.lt_of_lt_of_le (Nat.mul_lt_mul_of_pos_left h3 pos) (Nat.mul_le_mul_right _ le)
    omega
  · refine Decidable.byContradiction fun h => ?_
    have h3 : 2 ^ (p + 1) < 2 ^ b2.length := Nat.pow_lt_pow_right (by decide) (by omega)
    have h4 : 2 ^ b2.length ≤ cnt p c2 * 2 ^ b2.length := Nat.le_mul_of_pos_left _ pos
    omega
end
/-! one row more -/
theorem red_app : ∀ (b c : List HGf.Q4) (v t o : Nat), HGf.red (b ++ c) v t o = HGf.red c (HGf.red b v t o).1 (HGf.red b v t o).2.1 (HGf.red b v t o).2.2
  | [], _, _, _, _ => rfl
  | q :: b, c, v, t, o => by
    rw [List.cons_append, HGf.red, HGf.red]
    split
    · exact red_app b c v t o
    · exact red_app b c _ _ _
theorem red_new {b : List HGf.Q4} {v : Nat} (l w : Nat) (h : (HGf.red b v 0 0).1 ≠ 0) : HGf.red (b ++ [newQ (HGf.red b v 0 0).1 l w]) v 0 0 = (0, (HGf.red b v 0 0).2.1 ^^^ l, (HGf.red b v 0 0).2.2 ^^^ w) := by
  rw [red_app]
  generalize HGf.red b v 0 0 = r at h ⊢
  obtain ⟨x, t, o⟩ := r
  dsimp only at h ⊢
  obtain ⟨k, l1, _, l2, _⟩ := HBt.lowb_spec (Nat.pos_of_ne_zero h)
  rw [HGf.red]
  have hn : ¬ x &&& (newQ x l w).h = 0 := fun z => by
    have z : x &&& HBt.lowb x = 0 := z
    rw [l1] at z
    rw [HGf.and_pow.mp z] at l2
    cases l2
  rw [if_neg hn, HGf.red]
  show (x ^^^ x, t ^^^ l, o ^^^ w) = _
  rw [Nat.xor_self]
theorem gvB {p f : Nat} {r : List Bool} (hr : r.length = p) (hp : p ≤ 6) : gv (adOf p f).1 (adOf p f).2 r = phi f (vec r) := gv_phi hr hp
theorem fitB_snoc (cs : List (List Bool × Bool)) (c : List Bool × Bool) (a : List Nat × Bool) : fitB (cs ++ [c]) a = (fitB cs a && decide (gv a.1 a.2 c.1 = c.2.toNat)) := by
  rw [fitB, List.all_append, fitB, List.all_cons, List.all_nil, Bool.and_true]
theorem fitP_snoc (p : Nat) (cs : List (List Bool × Bool)) (c : List Bool × Bool) : fitP p (cs ++ [c]) = (fitP p cs).filter fun a => decide (gv a.1 a.2 c.1 = c.2.toNat) := by
  unfold fitP
  rw [List.filter_filter]
  refine List.filter_congr fun a _ => ?_
  rw [fitB_snoc, Bool.and_comm]
theorem adOf_mod {p f : Nat} : adOf p (f % 2 ^ (p + 1)) = adOf p f := by
  unfold adOf plc
  rw [Nat.testBit_mod_two_pow, decide_eq_true (Nat.lt_succ_self p), Bool.true_and]
  congr 1
  refine List.filter_congr fun i hi => ?_
  have hi := List.mem_range.mp hi
  rw [Nat.testBit_mod_two_pow, decide_eq_true (by omega), Bool.true_and]
theorem adOf_mem (p f : Nat) : adOf p f ∈ adP p := by
  rw [← adOf_mod]
  exact (adP_perm p).mem_iff.mpr (List.mem_map.mpr ⟨_, List.mem_range.mpr (Nat.mod_lt _ (Nat.two_pow_pos _)), rfl⟩)
theorem adP_of {p : Nat} {a : List Nat × Bool} (h : a ∈ adP p) : ∃ f, a = adOf p f := by
  obtain ⟨f, _, e⟩ := List.mem_map.mp ((adP_perm p).mem_iff.mp h)
  exact ⟨f, e.symm⟩
theorem fitP_of {p f : Nat} {cs : List (List Bool × Bool)} (hb : BookOk p cs) (h : Fit f cs) : adOf p f ∈ fitP p cs := fitP_mem.mpr ⟨adOf_mem p f, by rw [fitB_of hb.len hb.p6]; exact fitF_iff.mpr h⟩
theorem fitP_fit {p : Nat} {cs : List (List Bool × Bool)} (hb : BookOk p cs) {a : List Nat × Bool} (h : a ∈ fitP p cs) : ∃ f, a = adOf p f ∧ Fit f cs := by
  obtain ⟨h1, h2⟩ := fitP_mem.mp h
  obtain ⟨f, rfl⟩ := adP_of h1
  rw [fitB_of hb.len hb.p6] at h2
  exact ⟨f, rfl, fitF_iff.mp h2⟩
section
variable {p : Nat} {cs : List (List Bool × Bool)} {b : List HGf.Q4} {r : List Bool}
/-- of a forced row all have one outcome -/
theorem gv_forced (hb : BookOk p cs) (e : baseF 0 (vcs cs) [] = (b, none)) (hr : r.length = p) (h0 : (HGf.red b (vec r) 0 0).1 = 0) {a : List Nat × Bool} (ha : a ∈ fitP p cs) : gv a.1 a.2 r = (HGf.red b (vec r) 0 0).2.2 := by
  obtain ⟨f, rfl, hf⟩ := fitP_fit hb ha
  rw [gvB hr hb.p6]
  exact forced_phi e h0 hf
theorem vec7 (hb : BookOk p cs) (hr : r.length = p) : vec r < 2 ^ 7 := Nat.lt_of_lt_of_le (vec_lt r) (Nat.pow_le_pow_right (by decide) (by have := hb.p6; omega))
/-- of an open row some have the one, some the other -/
theorem gv_open (hb : BookOk p cs) (e : baseF 0 (vcs cs) [] = (b, none)) (hr : r.length = p) (h0 : (HGf.red b (vec r) 0 0).1 ≠ 0) {o : Nat} (ho : o < 2) : ∃ a ∈ fitP p cs, gv a.1 a.2 r = o := by
  obtain ⟨f, g⟩ := open_phi hb e (vec7 hb hr) h0 ho
  exact ⟨_, fitP_of hb f, by rw [gvB hr hb.p6]; exact g⟩
def outsL (p : Nat) (cs : List (List Bool × Bool)) (r : List Bool) : List Int := (fitP p cs).map fun a => ((gv a.1 a.2 r : Nat) : Int)
theorem outs_two (hb : BookOk p cs) (e : baseF 0 (vcs cs) [] = (b, none)) (hr : r.length = p) {us : List Int} (hn : us.Nodup) (hu : ∀ k, k ∈ us ↔ k ∈ outsL p cs r) : decide (((us.length : Nat) : Int) = 2) = decide ((HGf.red b (vec r) 0 0).1 ≠ 0) := by
  by_cases h0 : (HGf.red b (vec r) 0 0).1 = 0
  · have all : ∀ k ∈ us, k = (((HGf.red b (vec r) 0 0).2.2 : Nat) : Int) := fun k hk => by
      obtain ⟨a, ha, rfl⟩ := List.mem_map.mp ((hu k).mp hk)
      rw [gv_forced hb e hr h0 ha]
    have : us.length ≤ 1 := by
      match us, hn, all with
      | [], _, _ => exact Nat.zero_le _
      | [_], _, _ => exact Nat.le_refl _
      | x :: y :: t, hn, all =>
        have e1 := all x (List.mem_cons_self ..)
        have e2 := all y (List.mem_cons_of_mem _ (List.mem_cons_self ..))
        exact absurd (List.mem_cons_self ..) (e1.trans e2.symm ▸ (List.nodup_cons.mp hn).1)
    rw [decide_eq_false (show ¬ ((us.length : Nat) : Int) = 2 by omega), decide_eq_false (fun z => z h0)]
  · obtain ⟨a0, h1, g0⟩ := gv_open hb e hr h0 (o := 0) (by decide)
    obtain ⟨a1, h2, g1⟩ := gv_open hb e hr h0 (o := 1) (by decide)
    have m0 : (0 : Int) ∈ us := (hu 0).mpr (List.mem_map.mpr ⟨a0, h1, by rw [g0]; rfl⟩)
    have m1 : (1 : Int) ∈ us := (hu 1).mpr (List.mem_map.mpr ⟨a1, h2, by rw [g1]; rfl⟩)
    have sub : ∀ k ∈ us, k ∈ [(0 : Int), 1] := fun k hk => by
      obtain ⟨a, ha, rfl⟩ := List.mem_map.mp ((hu k).mp hk)
      have := gv_lt a.1 a.2 r
      rcases (show gv a.1 a.2 r = 0 ∨ gv a.1 a.2 r = 1 by omega) with z | z <;> rw [z] <;> simp
    have l1 : us.length ≤ 2 := HS2.nodup_le _ _ hn sub
    have l2 : 2 ≤ us.length := HS2.nodup_le [(0 : Int), 1] us (by decide) fun k hk => by
      simp only [List.mem_cons, List.not_mem_nil, or_false] at hk
      rcases hk with rfl | rfl
      · exact m0
      · exact m1
    rw [decide_eq_true (show ((us.length : Nat) : Int) = 2 by omega), decide_eq_true h0]
theorem vcs_snoc (cs : List (List Bool × Bool)) (c : List Bool × Bool) : vcs (cs ++ [c]) = vcs cs ++ [(vec c.1, c.2.toNat)] := by rw [vcs, List.map_append]; rfl
/-- the base behind an open row -/
theorem base_open (e : baseF 0 (vcs cs) [] = (b, none)) (h0 : (HGf.red b (vec r) 0 0).1 ≠ 0) (o : Bool) : baseF 0 (vcs (cs ++ [(r, o)])) [] = (b ++ [newQ (HGf.red b (vec r) 0 0).1 ((HGf.red b (vec r) 0 0).2.1 ^^^ 2 ^ cs.length) ((HGf.red b (vec r) 0 0).2.2 ^^^ o.toNat)], none) := by
  rw [vcs_snoc, baseF_app, e]
  dsimp only
  rw [baseF, if_neg h0, baseF, Nat.zero_add, vcs, List.length_map]
/-- a forced row told otherwise -/
theorem base_torn (e : baseF 0 (vcs cs) [] = (b, none)) (h0 : (HGf.red b (vec r) 0 0).1 = 0) {o : Bool} (ho : (HGf.red b (vec r) 0 0).2.2 ≠ o.toNat) : baseF 0 (vcs (cs ++ [(r, o)])) [] = (b, some ((HGf.red b (vec r) 0 0).2.1 ^^^ 2 ^ cs.length)) := by
  rw [vcs_snoc, baseF_app, e]
  dsimp only
  rw [baseF, if_pos h0, if_neg ho, Nat.zero_add, vcs, List.length_map]
theorem base_same (e : baseF 0 (vcs cs) [] = (b, none)) (h0 : (HGf.red b (vec r) 0 0).1 = 0) {o : Bool} (ho : (HGf.red b (vec r) 0 0).2.2 = o.toNat) : baseF 0 (vcs (cs ++ [(r, o)])) [] = (b, none) := by
  rw [vcs_snoc, baseF_app, e]
  dsimp only
  rw [baseF, if_pos h0, if_pos ho, baseF]
theorem fitP_same (hb : BookOk p cs) (e : baseF 0 (vcs cs) [] = (b, none)) (hr : r.length = p) (h0 : (HGf.red b (vec r) 0 0).1 = 0) {o : Bool} (ho : (HGf.red b (vec r) 0 0).2.2 = o.toNat) : fitP p (cs ++ [(r, o)]) = fitP p cs := by
  rw [fitP_snoc, List.filter_eq_self]
  exact fun a ha => decide_eq_true ((gv_forced hb e hr h0 ha).trans ho)
theorem red_small (hb : BookOk p cs) (e : baseF 0 (vcs cs) [] = (b, none)) : (HGf.red b (vec r) 0 0).2.1 < 2 ^ cs.length := by
  have hl := (baseF_ok (cs := vcs cs) (n := 0) (b := []) (fun q hq => by cases hq) (vcs_lt hb) ⟨Nat.le_refl _, fun q hq => by cases hq⟩).1
  rw [e, vcs, List.length_map, Nat.zero_add] at hl
  exact red_lot hl.2 (Nat.two_pow_pos _)
theorem torn_bit {t n : Nat} (h : t < 2 ^ n) (hn : n < 64) : n ∈ HBt.nums (t ^^^ 2 ^ n) := by
  refine List.mem_filter.mpr ⟨List.mem_range.mpr hn, ?_⟩
  rw [Nat.testBit_xor, HGf.bit_hi h (Nat.le_refl _), Nat.testBit_two_pow_self]
  rfl
theorem nums_pow {n : Nat} (hn : n < 64) : HBt.nums (2 ^ n) = [n] := (show ∀ n : Fin 64, HBt.nums (2 ^ n.val) = [n.val] by decide +kernel) ⟨n, hn⟩
/-- half of them fit -/
theorem fitP_half (hb : BookOk p cs) (e : baseF 0 (vcs cs) [] = (b, none)) {o : Bool} (h0 : (HGf.red b (vec r) 0 0).1 ≠ 0) (hb2 : BookOk p (cs ++ [(r, o)])) : 2 * (fitP p (cs ++ [(r, o)])).length = (fitP p cs).length := by
  have h1 := fitP_eq hb e
  have h2 := fitP_eq hb2 (base_open e h0 o)
  rw [List.length_append, List.length_singleton, Nat.pow_succ, ← h1, Nat.mul_comm (2 ^ b.length) 2, ← Nat.mul_assoc, Nat.mul_comm _ 2] at h2
  exact Nat.eq_of_mul_eq_mul_right (Nat.two_pow_pos _) h2
end
theorem adder_add (T : Tx P K mg) (p f : Nat) : adderD T p f = addI T (adOf p f) := by
  unfold adderD adderF addI addF adOf
  rw [bit_int]
theorem filter_none {α : Type} (xs : List α) : xs.filter (fun _ => false) = [] := by simp
/-! an adder among others, by the papers' == -/
def partsD (a : List Nat × Bool) : HD.D := .tup [lotT a.1, bitD a.2]
def partsOf : HD.D → HD.D
  | .ins _ (_ :: (_, d) :: _) => d
  | _ => .non
theorem partsOf_add (T : Tx P K mg) (a : List Nat × Bool) : partsOf (addI T a) = partsD a := rfl
theorem natsD_inj {l m : List Nat} (h : HBt.natsD l = HBt.natsD m) : l = m := by
  have e := congrArg (fun xs => unLot (.tup xs)) h
  have e2 : unLot (lotT l) = unLot (lotT m) := e
  rwa [unLot_lot, unLot_lot] at e2
theorem partsD_inj {a c : List Nat × Bool} (h : partsD a = partsD c) : a = c := by
  obtain ⟨l, x⟩ := a
  obtain ⟨m, y⟩ := c
  injection h with h
  injection h with h1 h2
  injection h2 with h2
  injection h1 with h1
  injection h2 with h2
  have e1 : l = m := natsD_inj h1
  have e2 : x = y := bi_inj h2
  rw [e1, e2]
theorem partsD_nob (a : List Nat × Bool) : HS2.nob 2 (partsD a) = true := by
  rw [partsD, HS2.nob_tup]
  simp only [List.all_cons, List.all_nil, Bool.and_true]
  rw [show HS2.nob 1 (lotT a.1) = true from nob_natsT a.1]
  rfl
theorem dif_nats : ∀ {l m : List Nat}, l ≠ m → ((HBt.natsD l).length != (HBt.natsD m).length || ((HBt.natsD l).zip (HBt.natsD m)).any fun q => HIn.dif 1 q.1 q.2) = true
  | [], [], h => absurd rfl h
  | [], _ :: _, _ => by simp [HBt.natsD]
  | _ :: _, [], _ => by simp [HBt.natsD]
  | x :: l, y :: m, h => by
    have e : (HBt.natsD (x :: l)).length = (HBt.natsD l).length + 1 := rfl
    have e2 : (HBt.natsD (y :: m)).length = (HBt.natsD m).length + 1 := rfl
    have e3 : (HBt.natsD (x :: l)).zip (HBt.natsD (y :: m)) = (.int (x : Int), .int (y : Int)) :: (HBt.natsD l).zip (HBt.natsD m) := rfl
    rw [e, e2, e3, List.any_cons]
    by_cases hxy : x = y
    · have ih := dif_nats (l := l) (m := m) (fun z => h (by rw [hxy, z]))
      rw [Bool.or_eq_true] at ih ⊢
      rcases ih with ih | ih
      · refine .inl ?_
        rw [bne_iff_ne] at ih ⊢
        omega
      · exact .inr (by rw [ih, Bool.or_true])
    · have : HIn.dif 1 (.int (x : Int)) (.int (y : Int)) = true := by
        show ((x : Int) != (y : Int)) = true
        rw [bne_iff_ne]
        exact fun z => hxy (by exact_mod_cast z)
      dsimp only
      rw [this, Bool.true_or, Bool.or_true]
theorem dif_add (T : Tx P K mg) {a c : List Nat × Bool} (h : a ≠ c) : HIn.dif 4 (addI T a) (addI T c) = true := by
  obtain ⟨l, x⟩ := a
  obtain ⟨m, y⟩ := c
  have key : HIn.dif 3 (partsD (l, x)) (partsD (m, y)) = true := by
    show (_ || (List.any _ _)) = true
    refine Bool.or_eq_true_iff.mpr (.inr ?_)
    show (HIn.dif 2 (lotT l) (lotT m) || (HIn.dif 2 (bitD x) (bitD y) || false)) = true
    by_cases hl : l = m
    · have hx : x ≠ y := fun z => h (by rw [hl, z])
      have : HIn.dif 2 (bitD x) (bitD y) = true := by
        show (bi x != bi y) = true
        rw [bne_iff_ne]
        exact fun z => hx (bi_inj z)
      rw [this, Bool.true_or, Bool.or_true]
    · have : HIn.dif 2 (lotT l) (lotT m) = true := dif_nats hl
      rw [this, Bool.true_or]
  show (_ || (List.any _ _)) = true
  refine Bool.or_eq_true_iff.mpr (.inr ?_)
  show (HIn.dif 3 (.str "adder") (.str "adder") || (HIn.dif 3 (partsD (l, x)) (partsD (m, y)) || _)) = true
  rw [key, Bool.true_or, Bool.or_true]
noncomputable def eqA (a : List Nat × Bool) (y : HD.D) : Bool := HS2.eqB (partsOf y) (partsD a)
theorem eqA_false (T : Tx P K mg) {a c : List Nat × Bool} (h : eqA a (addI T c) = false) : HIn.dif 4 (addI T c) (addI T a) = true := by
  refine dif_add T fun e => ?_
  have e : eqA a (addI T c) = true := by rw [e]; exact HS2.eqB_true rfl
  rw [e] at h
  cases h
theorem any_add (T : Tx P K mg) {a : List Nat × Bool} {L : List (List Nat × Bool)} (h : a ∈ L) : (L.map (addI T)).any (eqA a) = true :=
  List.any_eq_true.mpr ⟨addI T a, List.mem_map.mpr ⟨a, h, rfl⟩, HS2.eqB_true rfl⟩
theorem use_eqA {T : Tx P K mg} {a c : List Nat × Bool} {n : Nat} {Q : HD.I → Nat → Prop} {E : HD.XD} (q : Q (.v (.bl (eqA a (addI T c)))) n) : spd_Paper_eq T [addI T c, addI T a] n Q E := by
  refine ⟨_, _, _, _, _, _, _, _, _, _, rfl, ⟨T.pc_Adder, rfl, rfl⟩, ⟨T.pc_Adder, rfl, rfl⟩, HS2.cmp_nob (partsD_nob c) (partsD_nob a) (by decide) (by decide), ?_⟩
  rw [decide_eq_true rfl, decide_eq_true rfl, Bool.true_and, Bool.true_and]
  have e : HD.D.eqv (partsD c) (partsD a) = eqA a (addI T c) := HS2.eqv_B (partsD_nob c) (partsD_nob a)
  show Q (.v (.bl (HD.D.eqv (partsD c) (partsD a)))) n
  rw [e]
  exact q
noncomputable def eqP (x y : HD.D) : Bool := HS2.eqB (partsOf x) (partsOf y)
theorem eqP_false (T : Tx P K mg) {a c : List Nat × Bool} (h : eqP (addI T a) (addI T c) = false) : HIn.dif 4 (addI T a) (addI T c) = true := by
  refine dif_add T fun e => ?_
  have e : eqP (addI T a) (addI T c) = true := by rw [e]; exact HS2.eqB_true rfl
  rw [e] at h
  cases h
theorem use_eqP {T : Tx P K mg} {a c : List Nat × Bool} {n : Nat} {Q : HD.I → Nat → Prop} {E : HD.XD} (q : Q (.v (.bl (eqP (addI T a) (addI T c)))) n) : spd_Paper_eq T [addI T a, addI T c] n Q E := use_eqA (a := c) (c := a) q
theorem eqP_self (T : Tx P K mg) (a : List Nat × Bool) : eqP (addI T a) (addI T a) = true := HS2.eqB_true rfl
theorem eqL_self (T : Tx P K mg) (L : List (List Nat × Bool)) : HIn.eqL eqP (L.map (addI T)) (L.map (addI T)) = true := by
  unfold HIn.eqL
  rw [beq_self_eq_true, Bool.true_and, List.all_eq_true]
  intro q hq
  have : ∀ (M : List (List Nat × Bool)) (q : HD.D × HD.D), q ∈ (M.map (addI T)).zip (M.map (addI T)) → eqP q.1 q.2 = true := fun M => by
    induction M with
    | nil => intro q hq; cases hq
    | cons a M ih =>
      intro q hq
      rw [List.map_cons, List.zip_cons_cons] at hq
      rcases List.mem_cons.mp hq with rfl | hq
      · exact eqP_self T a
      · exact ih q hq
  exact this L q hq
theorem flat_nats (l : List Nat) : (HBt.natsD l).all HD.flatD = true := List.all_eq_true.mpr fun d h => by
  obtain ⟨z, _, rfl⟩ := List.mem_map.mp h
  rfl
theorem mem_natsInt {z : Nat} {l : List Nat} : (z : Int) ∈ (l.map fun (i : Nat) => (i : Int)) ↔ z ∈ l := by
  constructor
  · intro h
    obtain ⟨y, hy, e⟩ := List.mem_map.mp h
    have : y = z := by exact_mod_cast e
    rwa [← this]
  · intro h; exact List.mem_map.mpr ⟨z, h, rfl⟩
theorem in_nats {z : Nat} {l : List Nat} : HD.inF (.int (z : Int)) (HBt.natsD l) = decide (z ∈ l) := by
  rw [HBt.natsD_ints, HS2.inF_ints]
  exact decide_eq_decide.mpr mem_natsInt
theorem adDp_nobs (L : List (List Nat × Bool)) : ∀ x ∈ L.map adDp, HS2.nob 2 x = true := fun x hx => by
  obtain ⟨a, _, rfl⟩ := List.mem_map.mp hx
  exact partsD_nob a
theorem adDp_nob (L : List (List Nat × Bool)) : HS2.nob 3 (.lst (L.map adDp)) = true := by
  show (L.map adDp).all (HS2.nob 2) = true
  rw [List.all_map, List.all_eq_true]
  exact fun a _ => partsD_nob a
theorem in_fits {a : List Nat × Bool} {L : List (List Nat × Bool)} (h : a ∈ L) : HS2.inB (partsD a) (L.map adDp) = true := HS2.inB_iff.mpr (List.mem_map.mpr ⟨a, h, rfl⟩)
/-- the paper of an open row, by its adders -/
def openI (T : Tx P K mg) (a c : List Nat × Bool) : HD.D := .ins T.C_Open [("word", .str "open"), ("parts", .tup [addI T a, addI T c]), ("one", addI T a), ("other", addI T c)]
theorem open_add (T : Tx P K mg) (p f g : Nat) : openD T p f g = openI T (adOf p f) (adOf p g) := by
  unfold openD openI
  rw [adder_add, adder_add]
/-- two papers of two adders, alike -/
theorem use_open_eq {T : Tx P K mg} {a c : List Nat × Bool} {n : Nat} {Q : HD.I → Nat → Prop} {E : HD.XD} (q : Q (.v (.bl true)) n) : spd_Paper_eq1 T [openI T a c, openI T a c] n Q E := by
  have hm : ∀ x ∈ [addI T a, addI T c], ∃ d, x = addI T d := fun x hx => by
    simp only [List.mem_cons, List.not_mem_nil, or_false] at hx
    rcases hx with rfl | rfl
    · exact ⟨_, rfl⟩
    · exact ⟨_, rfl⟩
  refine ⟨_, _, _, _, _, _, _, _, [addI T a, addI T c], [addI T a, addI T c], T.C_Adder, T.C_Adder, eqP, rfl, ⟨T.pc_Open, rfl, rfl⟩, ⟨T.pc_Open, rfl, rfl⟩, ⟨fun x hx y hy => ?_, T.eq_Adder_Adder, fun x hx y hy m Pq Z h => ?_⟩, ?_⟩
  · obtain ⟨a, rfl⟩ := hm x hx
    obtain ⟨c, rfl⟩ := hm y hy
    exact ⟨⟨_, rfl⟩, ⟨_, rfl⟩, fun h => ⟨4, eqP_false T h⟩⟩
  · obtain ⟨a, rfl⟩ := hm x hx
    obtain ⟨c, rfl⟩ := hm y hy
    exact use_eqP h
  · rw [decide_eq_true rfl, decide_eq_true rfl, Bool.true_and, Bool.true_and]
    rw [show HIn.eqL eqP [addI T a, addI T c] [addI T a, addI T c] = true from eqL_self T [a, c]]
    exact q
theorem xor_back (a b : Nat) : a ^^^ (a ^^^ b) = b := by rw [← Nat.xor_assoc, Nat.xor_self, Nat.zero_xor]
/-- a row that was told is forced by itself -/
theorem word_told (T : Tx P K mg) (p : Nat) {b : List HGf.Q4} {v n : Nat} (o : Bool) (h0 : (HGf.red b v 0 0).1 ≠ 0) : wordR T p (b ++ [newQ (HGf.red b v 0 0).1 ((HGf.red b v 0 0).2.1 ^^^ 2 ^ n) ((HGf.red b v 0 0).2.2 ^^^ o.toNat)]) v = forcedD T o.toNat (2 ^ n) := by
  unfold wordR
  rw [red_new _ _ h0]
  dsimp only
  rw [if_pos rfl, xor_back, xor_back]
def gvP (r : List Bool) (o : Bool) : HD.D → Bool
  | .tup [.tup xs, .int c] => decide (gv (unLot (.tup xs)) (decide (c = 1)) r = o.toNat)
  | _ => false
theorem gvP_ad (r : List Bool) (o : Bool) (a : List Nat × Bool) : gvP r o (adDp a) = decide (gv a.1 a.2 r = o.toNat) := by
  show decide (gv (unLot (lotT a.1)) (decide (bi a.2 = 1)) r = o.toNat) = _
  rw [unLot_lot, bi_eq1]
theorem due_eq (p : Nat) (cs : List (List Bool × Bool)) (r : List Bool) (o : Bool) : (((fitP p cs).map adDp).filter (gvP r o)).map id = (fitP p (cs ++ [(r, o)])).map adDp := by
  rw [List.map_id, List.filter_map, fitP_snoc, List.filter_congr (p := gvP r o ∘ adDp) (q := fun a => decide (gv a.1 a.2 r = o.toNat)) (fun a _ => gvP_ad r o a)]
def partD (b : List HGf.Q4) : HD.D → Bool
  | .tup xs => decide ((HGf.red b (vec (xs.map oneB)) 0 0).1 ≠ 0)
  | _ => false
theorem partD_row (b : List HGf.Q4) (r : List Bool) : partD b (rowD r) = decide ((HGf.red b (vec r) 0 0).1 ≠ 0) := by
  show decide ((HGf.red b (vec ((r.map bitD).map oneB)) 0 0).1 ≠ 0) = _
  rw [unbit]
def outD (r : List Bool) : HD.D → HD.D
  | .tup [.tup xs, .int c] => .int ((gv (unLot (.tup xs)) (decide (c = 1)) r : Nat) : Int)
  | _ => .non
theorem outD_ad (r : List Bool) (a : List Nat × Bool) : outD r (adDp a) = .int ((gv a.1 a.2 r : Nat) : Int) := by
  show HD.D.int ((gv (unLot (lotT a.1)) (decide (bi a.2 = 1)) r : Nat) : Int) = _
  rw [unLot_lot, bi_eq1]
theorem outD_L (p : Nat) (cs : List (List Bool × Bool)) (r : List Bool) : ((fitP p cs).map adDp).map (outD r) = (outsL p cs r).map HD.D.int := by
  rw [outsL, List.map_map, List.map_map]
  exact List.map_congr_left fun a _ => outD_ad r a
def sp_law (K : PySem.W.Frag) : Sp := fun vs H Q _ => ∃ (a : Addr) (ns : List Int), vs = [.ref a] ∧ SqL K H a (ns.map V.int) ∧ ns.length ≤ 63 ∧ ∀ H', Q (.bl true) H'
theorem ok_law (T : Tx P K mg) : FnOk P w K mg base CX0 9 T.f_law T.fd_law ["script"] (sp_law K) := by
  refine T.F_law.ok sc_law (fun vs H Q E h => ?_) (fun cdv A outer s H vs Q E hr h => ?_)
  · obtain ⟨s0, ns0, rfl, hS, hl, q⟩ := h; rfl
  obtain ⟨s0, ns0, rfl, hS, hl, q⟩ := h
  refine ⟨_, (pss_cons (ps_set (i := 1) sc_law.nd rfl (by first | exact .inl rfl | exact .inr rfl) (pe_call (ok__law_well T) (hr.mono (by decide)) (by rfl) T.g__law_well T.F__law_well.kp T.b__law_well .nil pass0 (pa_cons (pv 0) pa_nil)))
      (pss_cons (ps_set (i := 2) sc_law.nd rfl (by first | exact .inl rfl | exact .inr rfl) (pe_call (ok__law_pick T) (hr.mono (by decide)) (by rfl) T.g__law_pick T.F__law_pick.kp T.b__law_pick .nil pass0 (pa_cons (pv 1) (pa_cons (pe_lst (pa_cons pe_int (pa_cons pe_int (pa_cons pe_int (pa_cons pe_int (pa_cons pe_int (pa_cons pe_int pa_nil))))))) pa_nil))))
      (pss_cons (ps_par3 (i := 3) (j := 4) (l := 5) (by rfl) sc_law.nd rfl rfl rfl (by decide) (by decide) (by decide) rfl rfl rfl (pa_cons (pe_call (ok__law_pick T) (hr.mono (by decide)) (by rfl) T.g__law_pick T.F__law_pick.kp T.b__law_pick .nil pass0 (pa_cons (pv 1) (pa_cons (pe_call (ok__law_adders T) (hr.mono (by decide)) (by rfl) T.g__law_adders T.F__law_adders.kp T.b__law_adders .nil pass0 (pa_cons (pv 2) pa_nil)) pa_nil))) (pa_cons (pe_call (ok__law_rows T) (hr.mono (by decide)) (by rfl) T.g__law_rows T.F__law_rows.kp T.b__law_rows .nil pass0 (pa_cons (pv 2) pa_nil)) (pa_cons (pe_lst pa_nil) pa_nil))) (by rfl))
      (pss_cons (ps_for PassesOwn.never (by rfl) (pi_range1 (by rfl) T.z_range (pa_cons (pe_callB (call_minU (by rfl)) (by rfl) T.z_min (by decide +kernel) (pa_cons (pe_op op_sub (pe_callB (call_lenK (K := K)) (by rfl) T.z_len (by decide +kernel) (pa_cons (pv 4) pa_nil)) pe_int) (pa_cons (pe_call (ok__law_sip T) (hr.mono (by decide)) (by rfl) T.g__law_sip T.F__law_sip.kp T.b__law_sip .nil pass0 (pa_cons (pv 1) (pa_cons pe_int pa_nil))) pa_nil))) pa_nil)) (pg_name (i := 6) sc_law.nd rfl (by first | exact .inl rfl | exact .inr rfl)) (pss_cons (ps_set (i := 7) sc_law.nd rfl (by first | exact .inl rfl | exact .inr rfl) (HD.pe_bmK (K := K) PySem.F.plainAttrs_list PySem.F.slot_list_pop PySem.F.type_list_pop mt_popAt (pv 4) (pa_cons (pe_call (ok__law_sip T) (hr.mono (by decide)) (by rfl) T.g__law_sip T.F__law_sip.kp T.b__law_sip .nil pass0 (pa_cons (pv 1) (pa_cons (pe_callB (call_lenK (K := K)) (by rfl) T.z_len (by decide +kernel) (pa_cons (pv 4) pa_nil)) pa_nil))) pa_nil)))
      (pss_one (ps_expr (HD.pe_bmK (K := K) PySem.F.plainAttrs_list PySem.F.slot_list_append PySem.F.type_list_append mt_append (pv 5) (pa_cons (pe_tup (pa_cons (pv 7) (pa_cons (pe_call (ok__law_gives T) (hr.mono (by decide)) (by rfl) T.g__law_gives T.F__law_gives.kp T.b__law_gives .nil pass0 (pa_cons (pv 3) (pa_cons (pv 7) pa_nil))) pa_nil))) pa_nil))))))
      (pss_cons (ps_asg (pe_tup (pa_cons (StX.pe_makeR T.mk_Book (ok_Book_init T) (hr.mono (by decide)) (by rfl) T.g_Book pass0 (pa_cons (pv 2) (pa_cons (pv 5) pa_nil))) (pa_cons (pe_call (ok__law_fits T) (hr.mono (by decide)) (by rfl) T.g__law_fits T.F__law_fits.kp T.b__law_fits .nil pass0 (pa_cons (pv 2) (pa_cons (pv 5) pa_nil))) pa_nil))) (pg_tupK (K := K) 2 (by rfl) (pgs_cons (pg_name (i := 8) sc_law.nd rfl (by first | exact .inl rfl | exact .inr rfl)) (pgs_cons (pg_name (i := 9) sc_law.nd rfl (by first | exact .inl rfl | exact .inr rfl)) pgs_nil))))
      (pss_cons (ps_set (i := 7) sc_law.nd rfl (by first | exact .inl rfl | exact .inr rfl) (pe_call (ok__law_pick T) (hr.mono (by decide)) (by rfl) T.g__law_pick T.F__law_pick.kp T.b__law_pick .nil pass0 (pa_cons (pv 1) (pa_cons (pv 4) pa_nil))))
      (pss_cons (ps_setLc (i := 12) (own := [("one", 10)]) (g := gName 10) (by rfl) sc_law.nd rfl rfl (sw_true rfl rfl rfl (by decide +kernel)) (pi_listK (K := K) (pv 4)) (blkOk_by (own := [("one", 10)]) (N := n_law) (sc := defScope s_law) (by decide +kernel)) (fun _ _ _ _ _ => (pg_name (i := 10) sc_law.nd rfl (by first | exact .inl rfl | exact .inr rfl))) (fun _ _ _ _ _ => (pts_one (pt_cmpR (op_eqK (K := K) hr.units) (HIn.pe_lenSetA (K := K) (by rfl) T.z_len (by rfl) T.z_set (pe_lc (own := [("fit", 11)]) (g := gName 11) (tt := tYes) (by rfl) sc_law.nd (pi_listK (K := K) (pv 9)) (blkOk_by (own := [("fit", 11)]) (by kernel_rfl)) (fun _ _ _ _ _ => (pg_name (i := 11) sc_law.nd rfl (by first | exact .inl rfl | exact .inr rfl))) (fun _ _ _ _ _ => pts_nil) (fun _ _ _ _ _ => (pe_call (ok__law_gives T) (hr.mono (by decide)) (by rfl) T.g__law_gives T.F__law_gives.kp T.b__law_gives .nil pass0 (pa_cons (pv 11) (pa_cons (pv 10) pa_nil)))))) pe_int (nomark _)))) (fun _ _ _ _ _ => (pv 10)))
      (pss_cons (ps_if (PW.pt (pw_and (pt_cmpR (op_neK (K := K) hr.units) (pv 12) (pe_lst pa_nil) (nomark _)) (pw_and1 (pt_cmpR op_gt (pe_call (ok__law_sip T) (hr.mono (by decide)) (by rfl) T.g__law_sip T.F__law_sip.kp T.b__law_sip .nil pass0 (pa_cons (pv 1) (pa_cons pe_int pa_nil))) pe_int (nomark _))))) (pss_one (ps_set (i := 7) sc_law.nd rfl (by first | exact .inl rfl | exact .inr rfl) (pe_call (ok__law_pick T) (hr.mono (by decide)) (by rfl) T.g__law_pick T.F__law_pick.kp T.b__law_pick .nil pass0 (pa_cons (pv 1) (pa_cons (pv 12) pa_nil))))) pss_nil)
      (pss_cons (ps_set (i := 13) sc_law.nd rfl (by first | exact .inl rfl | exact .inr rfl) (pe_call (ok_word_of T) (hr.mono (by decide)) (by rfl) T.g_word_of T.F_word_of.kp T.b_word_of .nil pass0 (pa_cons (pv 8) (pa_cons (pv 7) pa_nil))))
      (pss_cons (ps_if (pt_cmpR (op_neK (K := K) hr.units) (pe_callB (call_isiK' (K := K)) (by rfl) T.z_isinstance (by decide +kernel) (pa_cons (pv 13) (pa_cons (pe_glob (v := .ref T.C_Open) (by rfl) T.g_Open rfl) pa_nil))) (pe_cmpR (HY.op_inDK (K := K) (HY.units65 hr)) (pv 7) (pv 12) (by rfl)) (nomark _)) (pss_one (ps_ret pe_bl)) pss_nil)
      (pss_cons (ps_set (i := 14) sc_law.nd rfl (by first | exact .inl rfl | exact .inr rfl) (pe_lst (pa_cons (pe_methR (pv 8) T.pb_Book.cl T.me_Book_with_case (HY.fnr_ok0 (ok_Book_with_case T) T.b_Book_with_case) (hr.mono (by decide)) pass0 (pa_cons (pv 7) (pa_cons pe_int pa_nil))) (pa_cons (HIn.pe_methK0 (pv 8) T.pb_Book.cl T.me_Book_with_case (ok_Book_with_case T) (hr.mono (by decide)) T.kb_Book_with_case_outcome_row pass0 (pk_cons pe_int (pk_cons (pe_callTy (call_listK (K := K)) (by rfl) T.z_list (by decide +kernel) (pa_cons (pv 7) pa_nil)) pk_nil))) pa_nil))))
      (pss_cons (ps_if (PW.pt (pw_or (pt_cmpR (HP.op_neO (K := K) (ok_Book_eq T) T.b_Book_eq (hr.mono (by decide))) (pe_ix (ix_K (K := K)) (pv 14) pe_int (fun _ _ => rfl)) (StX.pe_makeR T.mk_Book (ok_Book_init T) (hr.mono (by decide)) (by rfl) T.g_Book pass0 (pa_cons (pv 2) (pa_cons (pe_op (op_addK (K := K)) (pv 5) (pe_lst (pa_cons (pe_tup (pa_cons (pv 7) (pa_cons pe_int pa_nil))) pa_nil))) pa_nil))) (nomark _)) (pw_or (pt_cmpR (op_neK (K := K) hr.units) (HC.pe_fldK (K := K) (pe_ix (ix_K (K := K)) (pv 14) pe_int (fun _ _ => rfl))) (pe_callTy (call_tupleK (K := K)) (by rfl) T.z_tuple (by decide +kernel) (pa_cons (pe_op (op_addK (K := K)) (pv 5) (pe_lst (pa_cons (pe_tup (pa_cons (pv 7) (pa_cons pe_int pa_nil))) pa_nil))) pa_nil)) (nomark _)) (pw_or1 (pt_cmpR (op_neK (K := K) hr.units) (pe_callB (HLn.call_lenO T.me_Book___len__ (ok_Book_len T) T.b_Book_len (hr.mono (by decide))) (by rfl) T.z_len (by decide +kernel) (pa_cons (pv 8) pa_nil)) (pe_callB (call_lenK (K := K)) (by rfl) T.z_len (by decide +kernel) (pa_cons (pv 5) pa_nil)) (nomark _)))))) (pss_one (ps_ret pe_bl)) pss_nil)
      (pss_cons (ps_if (pt_val (pe_callB (call_isiK' (K := K)) (by rfl) T.z_isinstance (by decide +kernel) (pa_cons (pv 13) (pa_cons (pe_glob (v := .ref T.C_Forced) (by rfl) T.g_Forced rfl) pa_nil)))) (pss_cons (ps_par (i := 15) (j := 16) (by rfl) sc_law.nd rfl rfl (by decide) rfl rfl (pa_cons (pe_ix (ix_K (K := K)) (pv 14) (HC.pe_fldK (K := K) (pv 13)) (fun _ _ => rfl)) (pa_cons (pe_ix (ix_K (K := K)) (pv 14) (pe_op op_sub pe_int (HC.pe_fldK (K := K) (pv 13))) (fun _ _ => rfl)) pa_nil)) (by rfl))
      (pss_cons (ps_set (i := 17) sc_law.nd rfl (by first | exact .inl rfl | exact .inr rfl) (pe_call (ok_quarrel T) (hr.mono (by decide)) (by rfl) T.g_quarrel T.F_quarrel.kp T.b_quarrel .nil pass0 (pa_cons (pv 16) pa_nil)))
      (pss_one (ps_ret (pe_and (pe_cmpR (HIn.op_eqTO (K := K) (ok_Paper_eq T) T.b_Paper_eq (hr.mono (by decide))) (pe_call (ok_fitting T) (hr.mono (by decide)) (by rfl) T.g_fitting T.F_fitting.kp T.b_fitting .nil pass0 (pa_cons (pv 15) pa_nil)) (pe_call (ok_fitting T) (hr.mono (by decide)) (by rfl) T.g_fitting T.F_fitting.kp T.b_fitting .nil pass0 (pa_cons (pv 8) pa_nil)) (nomark _)) (pe_and (pe_cmpR (op_eqK (K := K) hr.units) (pe_call (ok_fitting T) (hr.mono (by decide)) (by rfl) T.g_fitting T.F_fitting.kp T.b_fitting .nil pass0 (pa_cons (pv 16) pa_nil)) (pe_tup pa_nil) (nomark _)) (pe_and (pe_callB (call_isiK' (K := K)) (by rfl) T.z_isinstance (by decide +kernel) (pa_cons (pv 17) (pa_cons (pe_glob (v := .ref T.C_Quarrel) (by rfl) T.g_Quarrel rfl) pa_nil))) (pe_one (pe_cmpR (op_inK (K := K)) (pe_callB (call_lenK (K := K)) (by rfl) T.z_len (by decide +kernel) (pa_cons (pv 5) pa_nil)) (HC.pe_fldK (K := K) (pv 17)) (by rfl)))))))))) pss_nil)
      (pss_cons (ps_if (PW.pt (pw_or (pt_cmpR (HY.op_niDK (K := K) (HY.units65 hr)) (HC.pe_fldK (K := K) (HC.pe_fldK (K := K) (pv 13))) (pv 9) (by rfl)) (pw_or (pt_cmpR (HY.op_niDK (K := K) (HY.units65 hr)) (HC.pe_fldK (K := K) (HC.pe_fldK (K := K) (pv 13))) (pv 9) (by rfl)) (pw_or1 (pt_cmpR (op_neK (K := K) hr.units) (pe_tup (pa_cons (pe_methR (HC.pe_fldK (K := K) (pv 13)) T.pc_Adder.cl T.me_Adder_outcome (HY.fnr_ok0 (ok_Adder_outcome T) T.b_Adder_outcome) (hr.mono (by decide)) pass0 (pa_cons (pv 7) pa_nil)) (pa_cons (pe_methR (HC.pe_fldK (K := K) (pv 13)) T.pc_Adder.cl T.me_Adder_outcome (HY.fnr_ok0 (ok_Adder_outcome T) T.b_Adder_outcome) (hr.mono (by decide)) pass0 (pa_cons (pv 7) pa_nil)) pa_nil))) (pe_tup (pa_cons pe_int (pa_cons pe_int pa_nil))) (nomark _)))))) (pss_one (ps_ret pe_bl)) pss_nil)
      (pss_cons (ps_if (pt_cmpR (op_neK (K := K) hr.units) (pe_tup (pa_cons (pe_call (ok__law_gives T) (hr.mono (by decide)) (by rfl) T.g__law_gives T.F__law_gives.kp T.b__law_gives .nil pass0 (pa_cons (HC.pe_fldK (K := K) (HC.pe_fldK (K := K) (pv 13))) (pa_cons (pv 7) pa_nil))) (pa_cons (pe_call (ok__law_gives T) (hr.mono (by decide)) (by rfl) T.g__law_gives T.F__law_gives.kp T.b__law_gives .nil pass0 (pa_cons (HC.pe_fldK (K := K) (HC.pe_fldK (K := K) (pv 13))) (pa_cons (pv 7) pa_nil))) pa_nil))) (pe_tup (pa_cons pe_int (pa_cons pe_int pa_nil))) (nomark _)) (pss_one (ps_ret pe_bl)) pss_nil)
      (pss_cons (ps_for PassesOwn.never (by rfl) (pi_tupK (K := K) (pe_tup (pa_cons pe_int (pa_cons pe_int pa_nil)))) (pg_name (i := 18) sc_law.nd rfl (by first | exact .inl rfl | exact .inr rfl)) (pss_cons (ps_setLc (i := 19) (own := [("fit", 11)]) (g := gName 11) (by rfl) sc_law.nd rfl rfl (sw_true rfl rfl rfl (by decide +kernel)) (pi_listK (K := K) (pv 9)) (blkOk_by (own := [("fit", 11)]) (N := n_law) (sc := defScope s_law) (by decide +kernel)) (fun _ _ _ _ _ => (pg_name (i := 11) sc_law.nd rfl (by first | exact .inl rfl | exact .inr rfl))) (fun _ _ _ _ _ => (pts_one (pt_cmpR (op_eqK (K := K) hr.units) (pe_call (ok__law_gives T) (hr.mono (by decide)) (by rfl) T.g__law_gives T.F__law_gives.kp T.b__law_gives .nil pass0 (pa_cons (pv 11) (pa_cons (pv 7) pa_nil))) (pv 18) (nomark _)))) (fun _ _ _ _ _ => (pv 11)))
      (pss_cons (ps_if (PW.pt (pw_or (pt_cmpR (op_neK (K := K) hr.units) (pe_op op_mulU pe_int (pe_callB (call_lenK (K := K)) (by rfl) T.z_len (by decide +kernel) (pa_cons (pv 19) pa_nil))) (pe_callB (call_lenK (K := K)) (by rfl) T.z_len (by decide +kernel) (pa_cons (pv 9) pa_nil)) (nomark _)) (pw_or1 (pt_cmpR (op_neK (K := K) hr.units) (pe_lc (own := [("one", 10)]) (g := gName 10) (tt := tYes) (by rfl) sc_law.nd (pi_tupK (K := K) (pe_call (ok_fitting T) (hr.mono (by decide)) (by rfl) T.g_fitting T.F_fitting.kp T.b_fitting .nil pass0 (pa_cons (pe_ix (ix_K (K := K)) (pv 14) (pv 18) (fun _ _ => rfl)) pa_nil))) (blkOk_by (own := [("one", 10)]) (N := n_law) (sc := defScope s_law) (by decide +kernel)) (fun _ _ _ _ _ => (pg_name (i := 10) sc_law.nd rfl (by first | exact .inl rfl | exact .inr rfl))) (fun _ _ _ _ _ => pts_nil) (fun _ _ _ _ _ => (HC.pe_fldK (K := K) (pv 10)))) (pv 19) (nomark _))))) (pss_one (ps_ret pe_bl)) pss_nil)
      (pss_cons (ps_set (i := 20) sc_law.nd rfl (by first | exact .inl rfl | exact .inr rfl) (pe_call (ok_word_of T) (hr.mono (by decide)) (by rfl) T.g_word_of T.F_word_of.kp T.b_word_of .nil pass0 (pa_cons (pe_ix (ix_K (K := K)) (pv 14) (pv 18) (fun _ _ => rfl)) (pa_cons (pv 7) pa_nil))))
      (pss_one (ps_if (PW.pt (pw_or (pt_not (pt_val (pe_callB (call_isiK' (K := K)) (by rfl) T.z_isinstance (by decide +kernel) (pa_cons (pv 20) (pa_cons (pe_glob (v := .ref T.C_Forced) (by rfl) T.g_Forced rfl) pa_nil))))) (pw_or (pt_cmpR (op_neK (K := K) hr.units) (HC.pe_fldK (K := K) (pv 20)) (pv 18) (nomark _)) (pw_or1 (pt_cmpR (op_neK (K := K) hr.units) (HC.pe_fldK (K := K) (pv 20)) (pe_tup (pa_cons (pe_callB (call_lenK (K := K)) (by rfl) T.z_len (by decide +kernel) (pa_cons (pv 5) pa_nil)) pa_nil)) (nomark _)))))) (pss_one (ps_ret pe_bl)) pss_nil))))))
      (pss_one (ps_ret (pe_and (pe_cmpR (HP.op_eqO (K := K) (ok_Book_eq T) T.b_Book_eq (hr.mono (by decide))) (pv 8) (StX.pe_makeR T.mk_Book (ok_Book_init T) (hr.mono (by decide)) (by rfl) T.g_Book pass0 (pa_cons (pv 2) (pa_cons (pe_callTy (call_tupleK (K := K)) (by rfl) T.z_tuple (by decide +kernel) (pa_cons (pv 5) pa_nil)) pa_nil))) (nomark _)) (pe_one (pe_cmpR (HP.op_eqO (K := K) (ok_Paper_eq1 T) T.b_Paper_eq (hr.mono (by decide))) (pe_call (ok_word_of T) (hr.mono (by decide)) (by rfl) T.g_word_of T.F_word_of.kp T.b_word_of .nil pass0 (pa_cons (pv 8) (pa_cons (pv 7) pa_nil))) (pv 13) (nomark _)))))))))))))))))))))), ?_⟩
  refine HX.start_ (σ := [some (.ref s0 : V), none, none, none, none, none, none, none, none, none, none, none, none, none, none, none, none, none, none, none, none]) rfl ?_
  fail "hr"
  refine ⟨s0, ns0, rfl, hS, hl, fun g k ns H0 e0 hg hh0 => ?_⟩
  with_reducible refine HX.gnS_ ?_
  with_reducible refine HX.gn0_ ?_
  refine' HD.begin (K := K) (m := 19) (D := ⟨fun _ _ => False, fun it _ => it = .v (.bl true), fun _ _ => False, fun _ _ => False⟩) hh0 ?len ?main ?ret (fun _ _ z => z) (fun _ _ z => z) (fun _ _ z => z)
  case len => rfl
  case ret =>
    rintro v H ⟨it, n, e, cx, r⟩
    subst e
    cases (show HD.R K cx.g cx.M0 H v (.bl true) from r)
    exact q H
  dsimp only [List.replicate]
  fail "dr"
  refine HD.use_one (xs := [.int 1, .int 2, .int 3, .int 4, .int 5, .int 6]) rfl (by decide) ⟨by decide, by decide⟩ fun pd hpd => ?_
  obtain ⟨p, rfl, hp1, hp6⟩ : ∃ p : Nat, pd = .int (p : Int) ∧ 1 ≤ p ∧ p ≤ 6 := by
    simp only [List.mem_cons, List.not_mem_nil, or_false] at hpd
    rcases hpd with rfl | rfl | rfl | rfl | rfl | rfl
    · exact ⟨1, rfl, by decide, by decide⟩
    · exact ⟨2, rfl, by decide, by decide⟩
    · exact ⟨3, rfl, by decide, by decide⟩
    · exact ⟨4, rfl, by decide, by decide⟩
    · exact ⟨5, rfl, by decide, by decide⟩
    · exact ⟨6, rfl, by decide, by decide⟩
  clear hpd
  have h6 := pow6 hp6
  have hpos := Nat.two_pow_pos p
  have hp2 : 2 ≤ 2 ^ p := Nat.le_trans (by decide) (Nat.pow_le_pow_right (by decide) hp1)
  have hal := adL_len p
  fail "dr"
  refine HD.use_one (xs := adL p) rfl (by omega) ⟨by omega, by omega⟩ fun ad had => ?_
  obtain ⟨a, ha, rfl⟩ : ∃ a ∈ adP p, ad = adDp a := by
    rw [adL_P] at had
    obtain ⟨a, ha, rfl⟩ := List.mem_map.mp had
    exact ⟨a, ha, rfl⟩
  clear had hal
  have hak := adP_ok ha
  have hakf := hak.few
  obtain ⟨f, rfl⟩ := adP_of ha
  fail "dr"
  rw [List.length_map, rowsL_len]
  fail "dr"
  intro d d0 d1
  fail "dr"
  obtain ⟨k0, hk, hk1, hk2⟩ : ∃ k0 : Nat, (if d < ((2 ^ p : Nat) : Int) - 1 then d else ((2 ^ p : Nat) : Int) - 1) = (k0 : Int) ∧ k0 ≤ 7 ∧ k0 + 1 ≤ 2 ^ p := by
    refine ⟨(if d < ((2 ^ p : Nat) : Int) - 1 then d else ((2 ^ p : Nat) : Int) - 1).toNat, ?_, ?_, ?_⟩ <;> split <;> omega
  rw [hk]
  clear hk d0 d1 d
  fail "dr"
  rw [HBt.rngN_eq]
  refine HD.ForD.inv (fun i ρ n' => n' ≤ 3 + i ∧ ∃ (rs : List (List Bool)) (cs : List (List Bool × Bool)) (x6 x7 : HD.S), ρ = [.un, .v .hat, .v (.int (p : Int)), .v (adDp (adOf p f)), .ow (.lst (rs.map rowD)), .ow (.lst (cs.map caseD)), x6, x7, .un, .un, .un, .un, .un, .un, .un, .un, .un, .un, .un, .un, .un] ∧ cs.length = i ∧ rs.length + i = 2 ^ p ∧ (∀ c ∈ cs, c.1.length = p) ∧ (∀ r ∈ rs, r.length = p) ∧ (cs.map (·.1) ++ rs).Nodup ∧ Fit f cs)
    ⟨by omega, rowsL p, [], _, _, rfl, rfl, by rw [rowsL_len]; rfl, (fun c hc => by cases hc), (fun r hr => rowsL_mem hr), rowsL_once p, fun c hc => by cases hc⟩ (fun i x ρ n' hx hi hp => ?_) (fun ρ n' hp => ?_)
  · obtain ⟨hn', rs, cs, x6, x7, rfl, e1, e2, e3, e4, e5, e6⟩ := hp
    rw [HBt.rngN_len] at hi
    have hrl : 0 < rs.length := by omega
    have hrl2 : rs.length ≤ 64 := by omega
    obtain ⟨_, rfl⟩ := HBt.rngN_at hx
    fail "dr"
    rw [List.length_map]
    fail "dr"
    intro d d0 d1
    obtain ⟨j, rfl⟩ := Int.eq_ofNat_of_zero_le d0
    have hj : j < rs.length := by omega
    fail "dr"
    refine' HY.popAt_ (j := (j : Int)) (m := j) (xs := rs.map rowD) (d := rowD rs[j]) ?zc ?zi ?zb ?zm ?ze ?_
    case zc => rfl
    case zi => rfl
    case zb => constructor <;> omega
    case zm => rw [List.length_map]; exact seq_nat hj
    case ze => rw [List.getElem?_map, List.getElem?_eq_getElem hj]; rfl
    have hjm := List.getElem_mem hj
    have hjl := e4 _ hjm
    fail "dr"
    refine use__law_gives (l := (adOf p f).1) (c := (adOf p f).2) (r := rs[j]) ⟨fun a ha => by rw [hjl]; exact hak.lt a ha, by omega⟩ ?_
    obtain ⟨o0, ho0⟩ : ∃ o0 : Bool, ((gv (adOf p f).1 (adOf p f).2 rs[j] : Nat) : Int) = bi o0 := two_bits (d := ((gv (adOf p f).1 (adOf p f).2 rs[j] : Nat) : Int)) (Int.natCast_nonneg _) (by have := gv_lt (adOf p f).1 (adOf p f).2 rs[j]; omega)
    rw [ho0]
    have ho1 : phi f (vec rs[j]) = o0.toNat := by
      rw [gvB hjl hp6] at ho0
      exact_mod_cast ho0
    fail "dr"
    refine HD.append_ rfl rfl (Nat.ble_eq_true_of_le (by rw [List.length_map]; omega)) ?_
    fail "dr"
    refine ⟨by omega, rs.eraseIdx j, cs ++ [(rs[j], o0)], _, _, by rw [List.map_append, map_erase]; rfl, by rw [List.length_append, e1]; rfl, ?_, fun c hc => ?_, fun r hr => e4 r ((List.eraseIdx_sublist rs j).subset hr), ?_, fun c hc => ?_⟩
    · rw [List.length_eraseIdx_of_lt hj]; omega
    · rcases List.mem_append.mp hc with hc | hc
      · exact e3 c hc
      · rw [List.mem_singleton.mp hc]; exact hjl
    · rw [List.map_append, List.append_assoc]
      have pm : ([rs[j]] ++ rs.eraseIdx j).Perm rs := erase_perm hj
      exact ((pm.append_left (cs.map (·.1))).nodup_iff).mpr e5
    · rcases List.mem_append.mp hc with hc | hc
      · exact e6 c hc
      · rw [List.mem_singleton.mp hc]; exact ho1
  obtain ⟨hn', rs, cs, x6, x7, rfl, e1, e2, e3, e4, e5, e6⟩ := hp
  rw [HBt.rngN_len] at e1 e2 hn'
  have hb : BookOk p cs := ⟨hp1, hp6, e3, e5.sublist (List.sublist_append_left _ _), by omega⟩
  have hrs : 0 < rs.length := by omega
  obtain ⟨b, eb⟩ := fit_none e6
  have hfl : (fitP p cs).length ≤ 128 := by
    have h1 := List.length_filter_le (fitB cs) (adP p)
    have h2 := adP_len p
    have h3 : (fitP p cs).length = ((adP p).filter (fitB cs)).length := rfl
    omega
  have hfp := fitP_some hb eb
  have hok : ∀ a ∈ fitP p cs, AdOk p a := fun a ha => adP_ok (fitP_mem.mp ha).1
  fail "dr"
  refine use_Book_init ⟨⟨rfl, csOk cs⟩, hb⟩ ?_
  rw [show HD.D.ins T.C_Book (bookF p cs) = bookD T p cs from rfl]
  fail "dr"
  refine HD.use_one (xs := rs.map rowD) rfl (by omega) ⟨by rw [List.length_map]; omega, by rw [List.length_map]; omega⟩ fun rd hrd => ?_
  obtain ⟨r1, hr1, rfl⟩ := List.mem_map.mp hrd
  clear hrd
  refine HD.gname_ rfl rfl ?_
  fail "dn"
  refine HIn.fz_ 9 rfl ?_
  fail "dn"
  fail "dr"
  refine HD.CpD.filD (xs := rs.map rowD) (partD b) id (by rw [List.length_map]; omega) (fun y hy ys => ?_) ?_
  · obtain ⟨r, hr0, rfl⟩ := List.mem_map.mp hy
    have hrl := e4 r hr0
    rw [partD_row]
    fail "dr"
    refine HD.CpD.mapD (xs := (fitP p cs).map adDp) (outD r) (by rw [List.length_map]; omega) (fun z hz zs => ?_) ?_
    · obtain ⟨a, ha', rfl⟩ := List.mem_map.mp hz
      have hka := hok a ha'
      have hkf := hka.few
      fail "dr"
      refine use__law_gives (l := a.1) (c := a.2) (r := r) ⟨fun i hi => by rw [hrl]; exact hka.lt i hi, by omega⟩ ?_
      fail "dr"
      exact ⟨(outD_ad r a).symm, rfl, rfl⟩
    · rw [outD_L]
      refine ⟨outsL p cs r, rfl, by rw [outsL, List.length_map]; omega, fun us hu1 hu2 => ?_⟩
      fail "dr"
      refine ⟨outs_two hb eb hrl hu1 hu2, ?_⟩
      split
      · fail "dr"
        exact ⟨rfl, rfl, rfl⟩
      · exact ⟨rfl, rfl⟩
  rw [List.map_id, List.filter_map, List.filter_congr (p := partD b ∘ rowD) (q := fun r => decide ((HGf.red b (vec r) 0 0).1 ≠ 0)) (fun r _ => partD_row b r)]
  have hpt : ∀ r, r ∈ rs.filter (fun r => decide ((HGf.red b (vec r) 0 0).1 ≠ 0)) ↔ r ∈ rs ∧ (HGf.red b (vec r) 0 0).1 ≠ 0 := fun r => by rw [List.mem_filter, decide_eq_true_iff]
  have hptl : (rs.filter (fun r => decide ((HGf.red b (vec r) 0 0).1 ≠ 0))).length ≤ rs.length := List.length_filter_le _ _
  generalize rs.filter (fun r => decide ((HGf.red b (vec r) 0 0).1 ≠ 0)) = pt at hpt hptl ⊢
  refine HD.gname_ rfl rfl ?_
  fail "dn"
  refine HD.cut_ (fun ρ' n' => ∃ (r : List Bool) (y12 : HD.S), r ∈ rs ∧ (y12 = .ow (.lst (pt.map rowD)) ∨ y12 = .v (.lst (pt.map rowD))) ∧ ρ' = [.un, .v .hat, .v (.int (p : Int)), .v (adDp (adOf p f)), .v (.lst (rs.map rowD)), .v (.lst (cs.map caseD)), x6, .v (rowD r), .ow (bookD T p cs), .v (.lst ((fitP p cs).map adDp)), .un, .un, y12, .un, .un, .un, .un, .un, .un, .un, .un]) ?_ ?_
  · fail "dr"
    refine HS2.neN_ 2 1 (by
      show (pt.map rowD).all (HS2.nob 1) = true
      rw [List.all_map, List.all_eq_true]
      exact fun r _ => rowD_nob r) (by rfl) (by decide) (by decide) ?_
    cases hpe : pt with
    | nil =>
      rw [show HS2.eqB (HD.I.b 12 (HD.D.lst (List.map rowD []))).val (HD.I.o (HD.D.lst [])).val = true from HS2.eqB_true rfl]
      fail "dr"
      exact ⟨r1, _, hr1, .inl rfl, rfl⟩
    | cons r0 pt' =>
      rw [show HS2.eqB (HD.I.b 12 (HD.D.lst (List.map rowD (r0 :: pt')))).val (HD.I.o (HD.D.lst [])).val = false from HS2.eqB_false fun z => by injection z with z; cases z]
      fail "dr"
      intro d d0 d1
      fail "dr"
      by_cases hd : 0 < d
      · rw [if_pos (decide_eq_true hd)]
        fail "dr"
        refine HD.use_one (xs := (r0 :: pt').map rowD) rfl (by omega) ⟨by simp, by rw [List.length_map, ← hpe]; omega⟩ fun rd hrd => ?_
        obtain ⟨r, hr, rfl⟩ := List.mem_map.mp hrd
        fail "dr"
        exact ⟨r, _, ((hpt r).mp (by rw [hpe]; exact hr)).1, .inr rfl, rfl⟩
      · rw [if_neg (fun y => hd (of_decide_eq_true y))]
        fail "dr"
        exact ⟨r1, _, hr1, .inl rfl, rfl⟩
  rintro ρ' n2 ⟨r, y12, hr, hy12, rfl⟩
  have hrl := e4 r hr
  have hrm : r ∉ cs.map (·.1) := fun z => (List.nodup_append.mp e5).2.2 r z r hr rfl
  have hbo : ∀ o, BookOk p (cs ++ [(r, o)]) := fun o => ⟨hp1, hp6, fun c hc => by
    rcases List.mem_append.mp hc with hc | hc
    · exact e3 c hc
    · rw [List.mem_singleton.mp hc]; exact hrl, by
    rw [List.map_append, List.nodup_append]
    exact ⟨hb.once, List.nodup_cons.mpr ⟨by simp, List.nodup_nil⟩, fun a ha b hb e => by
      rw [List.map_cons, List.map_nil, List.mem_singleton] at hb
      rw [hb] at e; rw [e] at ha; exact hrm ha⟩, by rw [List.length_append]; simp; omega⟩
  have hin : HS2.inB (rowD r) (pt.map rowD) = decide ((HGf.red b (vec r) 0 0).1 ≠ 0) := HS2.inB_eq ⟨fun h => by
    obtain ⟨r', h1, h2⟩ := List.mem_map.mp h
    rw [← rowD_inj h2]
    exact ((hpt r').mp h1).2, fun h => List.mem_map.mpr ⟨r, (hpt r).mpr ⟨hr, h⟩, rfl⟩⟩
  have hrn : ∀ x ∈ pt.map rowD, HS2.nob 1 x = true := fun x hx => by
    obtain ⟨r', _, rfl⟩ := List.mem_map.mp hx
    exact rowD_nob r'
  have hptl2 : pt.length ≤ 64 := by omega
  have hlm : (cs.map caseD).length = cs.length := List.length_map ..
  rcases hy12 with rfl | rfl
  all_goals
    first
      | (refine HIn.fz_ 12 rfl ?_; fail "dn")
      | skip
    fail "dr"
    refine use_word_of (d := rowD r) ⟨hb, rfl, hrl, eb⟩ ?_
    by_cases h0 : (HGf.red b (vec r) 0 0).1 = 0
    · rw [show wordR T p b (vec r) = forcedD T (HGf.red b (vec r) 0 0).2.2 (HGf.red b (vec r) 0 0).2.1 from if_pos h0]
      rw [decide_eq_false (fun z => z h0)] at hin
      obtain ⟨ob, ho⟩ : ∃ ob : Bool, (HGf.red b (vec r) 0 0).2.2 = ob.toNat := by
        have h1 := forced_phi eb h0 e6
        have h2 := phi_lt f (vec r)
        rcases (show (HGf.red b (vec r) 0 0).2.2 = 0 ∨ (HGf.red b (vec r) 0 0).2.2 = 1 by omega) with z | z
        · exact ⟨false, z⟩
        · exact ⟨true, z⟩
      have eR := base_same eb h0 ho
      have eF := fitP_same hb eb hrl h0 ho
      have eW : baseF 0 (vcs (cs ++ [(r, !ob)])) [] = _ := base_torn eb h0 (o := !ob) (by rw [ho]; cases ob <;> decide)
      have hsm := red_small (r := r) hb eb
      rw [ho]
      fail "dr"
      refine HS2.inN_ 1 1 rfl (rowD_nob r) hrn (by decide) (by decide) ?_
      rw [show HS2.inB (HD.I.v (rowD r)).val (pt.map rowD) = false from hin]
      fail "dr"
      refine use_Book_with_case (d := rowD r) (r := r) (o := false) ⟨rfl, hbo false⟩ ?_
      fail "dr"
      refine use_Book_with_case (d := .lst (r.map bitD)) (r := r) (o := true) ⟨rfl, hbo true⟩ ?_
      cases ob
      all_goals
        simp only [Bool.not_false, Bool.not_true] at eW
        have eN := fitP_none (hbo _) eW
        fail "dr"
        refine HD.addL_ (xs := cs.map caseD) (ys := [.tup [rowD r, .int 0]]) rfl rfl (by rw [List.length_map]; simp; omega) ?_
        fail "dr"
        refine use_Book_init (es := cs.map caseD ++ [.tup [rowD r, .int 0]]) (cs := cs ++ [(r, false)]) ⟨⟨rfl, (csOk cs).append (.cons (caseR (r, false)) .nil)⟩, hbo false⟩ ?_
        fail "dr"
        refine HD.eqO_ (C := T.C_Book) (E := T.C_Book) rfl rfl T.eq_Book_Book ?_
        refine use_Book_eq ⟨true, rfl, ?_⟩
        fail "dr"
        refine HD.addL_ (xs := cs.map caseD) (ys := [.tup [rowD r, .int 1]]) rfl rfl (by rw [List.length_map]; simp; omega) ?_
        fail "dr"
        refine HS2.neN_ 3 3 (casesD_nob _) (by
          show HS2.nob 3 (.tup (cs.map caseD ++ [caseD (r, true)])) = true
          rw [show cs.map caseD ++ [caseD (r, true)] = (cs ++ [(r, true)]).map caseD from by rw [List.map_append]; rfl]
          exact casesD_nob _) (by decide) (by decide) ?_
        rw [show HS2.eqB (HD.I.v (HD.D.tup (List.map caseD (cs ++ [(r, true)])))).val (HD.I.v (HD.D.tup (List.map caseD cs ++ [HD.D.tup [rowD r, HD.D.int 1]]))).val = true from HS2.eqB_true (congrArg HD.D.tup (by rw [List.map_append]; rfl))]
        fail "dr"
        refine HLn.lenO_ rfl (use_Book_len ⟨_, rfl, ⟨by omega, by omega⟩, ?_⟩)
        fail "dr"
        refine use_quarrel (hbo _) ?_
        rw [eW, quarrelR]
        fail "dr"
        refine use_fitting (hbo _) ?_
        rw [eF]
        fail "dr"
        refine use_fitting hb ?_
        fail "dr"
        refine HIn.tupO_ (C := T.C_Adder) (E := T.C_Adder) (xs := (fitP p cs).map (addI T)) (ys := (fitP p cs).map (addI T)) (q := eqP) rfl rfl (fun x hx y hy => ?_) (fun _ _ => T.eq_Adder_Adder) (fun x hx y hy Pq Z h => ?_) ?_
        · obtain ⟨a, _, rfl⟩ := List.mem_map.mp hx
          obtain ⟨c, _, rfl⟩ := List.mem_map.mp hy
          exact ⟨⟨_, rfl⟩, ⟨_, rfl⟩, fun h => ⟨4, eqP_false T h⟩⟩
        · obtain ⟨a, _, rfl⟩ := List.mem_map.mp hx
          obtain ⟨c, _, rfl⟩ := List.mem_map.mp hy
          exact use_eqP h
        rw [eqL_self]
        fail "dr"
        refine use_fitting (hbo _) ?_
        rw [eN]
        fail "dr"
        refine HS2.eqN_ 1 1 (by rfl) (by rfl) (by decide) (by decide) ?_
        rw [show HS2.eqB (HD.I.v (HD.D.tup [])).val (HD.I.v (HD.D.tup [])).val = true from HS2.eqB_true rfl]
        fail "dr"
        rw [hlm]
        refine HD.in_ rfl (by rfl) (flat_nats _) ?_
        rw [in_nats, decide_eq_true (torn_bit hsm (by omega))]
        fail "dr"
    · obtain ⟨f0, g0⟩ := open_phi hb eb (vec7 hb hrl) h0 (o := 0) (by decide)
      obtain ⟨f1, g1⟩ := open_phi hb eb (vec7 hb hrl) h0 (o := 1) (by decide)
      have ew : wordR T p b (vec r) = openI T (adOf p (addR (b ++ [newQ (HGf.red b (vec r) 0 0).1 (HGf.red b (vec r) 0 0).2.1 ((HGf.red b (vec r) 0 0).2.2 ^^^ 0)]))) (adOf p (addR (b ++ [newQ (HGf.red b (vec r) 0 0).1 (HGf.red b (vec r) 0 0).2.1 ((HGf.red b (vec r) 0 0).2.2 ^^^ 1)]))) := by
        rw [show wordR T p b (vec r) = openD T p (addR (b ++ [newQ (HGf.red b (vec r) 0 0).1 (HGf.red b (vec r) 0 0).2.1 ((HGf.red b (vec r) 0 0).2.2 ^^^ 0)])) (addR (b ++ [newQ (HGf.red b (vec r) 0 0).1 (HGf.red b (vec r) 0 0).2.1 ((HGf.red b (vec r) 0 0).2.2 ^^^ 1)])) from if_neg h0, open_add]
      generalize addR (b ++ [newQ (HGf.red b (vec r) 0 0).1 (HGf.red b (vec r) 0 0).2.1 ((HGf.red b (vec r) 0 0).2.2 ^^^ 0)]) = F0 at f0 g0 ew
      generalize addR (b ++ [newQ (HGf.red b (vec r) 0 0).1 (HGf.red b (vec r) 0 0).2.1 ((HGf.red b (vec r) 0 0).2.2 ^^^ 1)]) = F1 at f1 g1 ew
      rw [decide_eq_true h0] at hin
      rw [ew]
      have mF0 := fitP_of hb f0
      have mF1 := fitP_of hb f1
      have kF0 := hok _ mF0
      have kF1 := hok _ mF1
      have lF0 := kF0.few
      have lF1 := kF1.few
      have v0 : gv (adOf p F0).1 (adOf p F0).2 r = 0 := by rw [gvB hrl hp6]; exact g0
      have v1 : gv (adOf p F1).1 (adOf p F1).2 r = 1 := by rw [gvB hrl hp6]; exact g1
      fail "dr"
      refine HS2.inN_ 1 1 rfl (rowD_nob r) hrn (by decide) (by decide) ?_
      rw [show HS2.inB (HD.I.v (rowD r)).val (pt.map rowD) = true from hin]
      fail "dr"
      refine use_Book_with_case (d := rowD r) (r := r) (o := false) ⟨rfl, hbo false⟩ ?_
      fail "dr"
      refine use_Book_with_case (d := .lst (r.map bitD)) (r := r) (o := true) ⟨rfl, hbo true⟩ ?_
      fail "dr"
      refine HD.addL_ (xs := cs.map caseD) (ys := [.tup [rowD r, .int 0]]) rfl rfl (by rw [List.length_map]; simp; omega) ?_
      fail "dr"
      refine use_Book_init (es := cs.map caseD ++ [.tup [rowD r, .int 0]]) (cs := cs ++ [(r, false)]) ⟨⟨rfl, (csOk cs).append (.cons (caseR (r, false)) .nil)⟩, hbo false⟩ ?_
      fail "dr"
      refine HD.eqO_ (C := T.C_Book) (E := T.C_Book) rfl rfl T.eq_Book_Book ?_
      refine use_Book_eq ⟨true, rfl, ?_⟩
      fail "dr"
      refine HD.addL_ (xs := cs.map caseD) (ys := [.tup [rowD r, .int 1]]) rfl rfl (by rw [List.length_map]; simp; omega) ?_
      fail "dr"
      refine HS2.neN_ 3 3 (casesD_nob _) (by
        show HS2.nob 3 (.tup (cs.map caseD ++ [caseD (r, true)])) = true
        rw [show cs.map caseD ++ [caseD (r, true)] = (cs ++ [(r, true)]).map caseD from by rw [List.map_append]; rfl]
        exact casesD_nob _) (by decide) (by decide) ?_
      rw [show HS2.eqB (HD.I.v (HD.D.tup (List.map caseD (cs ++ [(r, true)])))).val (HD.I.v (HD.D.tup (List.map caseD cs ++ [HD.D.tup [rowD r, HD.D.int 1]]))).val = true from HS2.eqB_true (congrArg HD.D.tup (by rw [List.map_append]; rfl))]
      fail "dr"
      refine HLn.lenO_ rfl (use_Book_len ⟨_, rfl, ⟨by omega, by omega⟩, ?_⟩)
      fail "dr"
      have eI0 : HS2.inB (HD.I.v (HD.D.tup [HD.D.tup (HBt.natsD (adOf p F0).fst), bitD (adOf p F0).snd])).val ((fitP p cs).map adDp) = true := in_fits mF0
      have eI1 : HS2.inB (HD.I.v (HD.D.tup [HD.D.tup (HBt.natsD (adOf p F1).fst), bitD (adOf p F1).snd])).val ((fitP p cs).map adDp) = true := in_fits mF1
      refine HS2.niN_ 2 2 rfl (partsD_nob _) (adDp_nobs _) (by decide) (by decide) ?_
      rw [eI0]
      fail "dr"
      refine HS2.niN_ 2 2 rfl (partsD_nob _) (adDp_nobs _) (by decide) (by decide) ?_
      rw [eI1]
      fail "dr"
      refine use_Adder_outcome ⟨kF0, hp6, hrl⟩ ?_
      rw [v0]
      fail "dr"
      refine use_Adder_outcome ⟨kF1, hp6, hrl⟩ ?_
      rw [v1]
      fail "dr"
      have ev : HS2.eqB (HD.I.v (HD.D.tup [HD.D.int ((0 : Nat) : Int), HD.D.int ((1 : Nat) : Int)])).val (HD.I.v (HD.D.tup [HD.D.int 0, HD.D.int 1])).val = true := HS2.eqB_true rfl
      have hm : ((fitP p cs).map adDp).length = (fitP p cs).length := List.length_map ..
      refine HS2.neN_ 1 1 (by rfl) (by rfl) (by decide) (by decide) ?_
      rw [ev]
      fail "dr"
      refine use__law_gives (l := (adOf p F0).1) (c := (adOf p F0).2) (r := r) ⟨fun i hi => by rw [hrl]; exact kF0.lt i hi, by omega⟩ ?_
      rw [v0]
      fail "dr"
      refine use__law_gives (l := (adOf p F1).1) (c := (adOf p F1).2) (r := r) ⟨fun i hi => by rw [hrl]; exact kF1.lt i hi, by omega⟩ ?_
      rw [v1]
      fail "dr"
      refine HS2.neN_ 1 1 (by rfl) (by rfl) (by decide) (by decide) ?_
      rw [ev]
      fail "dr"
      refine HD.CpD.filD (xs := (fitP p cs).map adDp) (gvP r false) id (by rw [List.length_map]; omega) (fun y hy ys => ?_) ?_
      · obtain ⟨a, ha', rfl⟩ := List.mem_map.mp hy
        have hka := hok a ha'
        have hkf := hka.few
        rw [gvP_ad]
        fail "dr"
        refine use__law_gives (l := a.1) (c := a.2) (r := r) ⟨fun i hi => by rw [hrl]; exact hka.lt i hi, by omega⟩ ?_
        fail "dr"
        refine ⟨decide_eq_decide.mpr ⟨fun h => by exact_mod_cast h, fun h => by exact_mod_cast h⟩, ?_⟩
        split
        · fail "dr"
          exact ⟨rfl, rfl, rfl⟩
        · exact ⟨rfl, rfl⟩
      rw [due_eq]
      have hhF := fitP_half hb eb (o := false) h0 (hbo false)
      have hmF : ((fitP p (cs ++ [(r, false)])).map adDp).length = (fitP p (cs ++ [(r, false)])).length := List.length_map ..
      fail "dr"
      refine use_fitting (hbo false) ?_
      fail "dr"
      refine HD.CpD.mapD (xs := (fitP p (cs ++ [(r, false)])).map (addI T)) partsOf (by rw [List.length_map]; omega) (fun y hy ys => ?_) ?_
      · obtain ⟨a, ha', rfl⟩ := List.mem_map.mp hy
        fail "dr"
        exact ⟨rfl, rfl, rfl⟩
      rw [List.map_map, show partsOf ∘ addI T = adDp from rfl]
      fail "dr"
      refine HS2.neN_ 3 3 (adDp_nob _) (adDp_nob _) (by decide) (by decide) ?_
      rw [show HS2.eqB (HD.I.o (HD.D.lst ((fitP p (cs ++ [(r, false)])).map adDp))).val (HD.I.b 19 (HD.D.lst ((fitP p (cs ++ [(r, false)])).map adDp))).val = true from HS2.eqB_true rfl]
      fail "dr"
      refine use_word_of (d := rowD r) ⟨hbo false, rfl, hrl, base_open eb h0 false⟩ ?_
      rw [word_told T p false h0]
      fail "dr"
      rw [hlm]
      refine HS2.neN_ 1 1 (nob_natsT _) (by rfl) (by decide) (by decide) ?_
      rw [show HS2.eqB (HD.I.v (HD.D.tup (HBt.natsD (HBt.nums (2 ^ cs.length))))).val (HD.I.v (HD.D.tup [HD.D.int (cs.length : Int)])).val = true from HS2.eqB_true (congrArg HD.D.tup (by rw [nums_pow (by omega)]; rfl))]
      fail "dr"
      refine HD.CpD.filD (xs := (fitP p cs).map adDp) (gvP r true) id (by rw [List.length_map]; omega) (fun y hy ys => ?_) ?_
      · obtain ⟨a, ha', rfl⟩ := List.mem_map.mp hy
        have hka := hok a ha'
        have hkf := hka.few
        rw [gvP_ad]
        fail "dr"
        refine use__law_gives (l := a.1) (c := a.2) (r := r) ⟨fun i hi => by rw [hrl]; exact hka.lt i hi, by omega⟩ ?_
        fail "dr"
        refine ⟨decide_eq_decide.mpr ⟨fun h => by exact_mod_cast h, fun h => by exact_mod_cast h⟩, ?_⟩
        split
        · fail "dr"
          exact ⟨rfl, rfl, rfl⟩
        · exact ⟨rfl, rfl⟩
      rw [due_eq]
      have hhT := fitP_half hb eb (o := true) h0 (hbo true)
      have hmT : ((fitP p (cs ++ [(r, true)])).map adDp).length = (fitP p (cs ++ [(r, true)])).length := List.length_map ..
      fail "dr"
      refine use_fitting (hbo true) ?_
      fail "dr"
      refine HD.CpD.mapD (xs := (fitP p (cs ++ [(r, true)])).map (addI T)) partsOf (by rw [List.length_map]; omega) (fun y hy ys => ?_) ?_
      · obtain ⟨a, ha', rfl⟩ := List.mem_map.mp hy
        fail "dr"
        exact ⟨rfl, rfl, rfl⟩
      rw [List.map_map, show partsOf ∘ addI T = adDp from rfl]
      fail "dr"
      refine HS2.neN_ 3 3 (adDp_nob _) (adDp_nob _) (by decide) (by decide) ?_
      rw [show HS2.eqB (HD.I.o (HD.D.lst ((fitP p (cs ++ [(r, true)])).map adDp))).val (HD.I.b 19 (HD.D.lst ((fitP p (cs ++ [(r, true)])).map adDp))).val = true from HS2.eqB_true rfl]
      fail "dr"
      refine use_word_of (d := rowD r) ⟨hbo true, rfl, hrl, base_open eb h0 true⟩ ?_
      rw [word_told T p true h0]
      fail "dr"
      rw [hlm]
      refine HS2.neN_ 1 1 (nob_natsT _) (by rfl) (by decide) (by decide) ?_
      rw [show HS2.eqB (HD.I.v (HD.D.tup (HBt.natsD (HBt.nums (2 ^ cs.length))))).val (HD.I.v (HD.D.tup [HD.D.int (cs.length : Int)])).val = true from HS2.eqB_true (congrArg HD.D.tup (by rw [nums_pow (by omega)]; rfl))]
      fail "dr"
      refine use_Book_init (es := cs.map caseD) (cs := cs) ⟨⟨rfl, csOk cs⟩, hb⟩ ?_
      rw [show HD.D.ins T.C_Book (bookF p cs) = bookD T p cs from rfl]
      refine HD.eqO_ (C := T.C_Book) (E := T.C_Book) rfl rfl T.eq_Book_Book ?_
      refine use_Book_eq ⟨true, rfl, ?_⟩
      fail "dr"
      refine use_word_of (d := rowD r) ⟨hb, rfl, hrl, eb⟩ ?_
      rw [ew]
      fail "dr"
      refine HD.eqO_ (C := T.C_Open) (E := T.C_Open) rfl rfl T.eq_Open_Open ?_
      refine use_open_eq ⟨true, rfl, ?_⟩
      fail "dr"
      rfl
end
theorem all_mk {l : PySem.W.OpenLaw} {w : World} {K : PySem.W.Frag} {h : Heap} {mg : Str → Option Value} {fa : Addr} (X : K.In h) (G : h.Ns mainGlobals mg) (hfa : mg "law" = some (.ref fa))
    {C_Book : Addr} (a_Book : PySem.W.nsIn K mainGlobals "Book" = some (some (.ref C_Book)))
    {C_Paper : Addr} (a_Paper : PySem.W.nsIn K mainGlobals "Paper" = some (some (.ref C_Paper)))
    {C_Adder : Addr} (a_Adder : PySem.W.nsIn K mainGlobals "Adder" = some (some (.ref C_Adder)))
    {C_Fits : Addr} (a_Fits : PySem.W.nsIn K mainGlobals "Fits" = some (some (.ref C_Fits)))
    {C_Denial : Addr} (a_Denial : PySem.W.nsIn K mainGlobals "Denial" = some (some (.ref C_Denial)))
    {C_Quarrel : Addr} (a_Quarrel : PySem.W.nsIn K mainGlobals "Quarrel" = some (some (.ref C_Quarrel)))
    {C_Forced : Addr} (a_Forced : PySem.W.nsIn K mainGlobals "Forced" = some (some (.ref C_Forced)))
    {C_Open : Addr} (a_Open : PySem.W.nsIn K mainGlobals "Open" = some (some (.ref C_Open)))
    {od0 an0 : Option Addr} {sl0 : Array (Option Value)} {oc0 kV0 dc0 pm0 ct0 : Value} {f0 : Addr} {cd0 : Value} 
    (a0 : PySem.W.nsIn K mainGlobals "is_integer" = some (some (.ref f0)))
    (l0 : K.lookup f0 = some ⟨oc0, od0, .func (PySem.W.fnOf "is_integer" "is_integer" (defArgs s_is_integer) (defBody s_is_integer) (defScope s_is_integer) .none kV0 dc0 pm0 an0 cd0 ct0), sl0⟩)
    (c0 : PySem.W.codeIn K cd0 "is_integer" = true)
    (k0 : PySem.W.keepIn K (.ref f0) = true)
    {od1 an1 : Option Addr} {sl1 : Array (Option Value)} {oc1 kV1 dc1 pm1 ct1 : Value} {f1 : Addr} {cd1 : Value} 
    (a1 : PySem.W.nsIn K mainGlobals "is_within" = some (some (.ref f1)))
    (l1 : K.lookup f1 = some ⟨oc1, od1, .func (PySem.W.fnOf "is_within" "is_within" (defArgs s_is_within) (defBody s_is_within) (defScope s_is_within) .none kV1 dc1 pm1 an1 cd1 ct1), sl1⟩)
    (c1 : PySem.W.codeIn K cd1 "is_within" = true)
    (k1 : PySem.W.keepIn K (.ref f1) = true)
    {od2 an2 : Option Addr} {sl2 : Array (Option Value)} {oc2 kV2 dc2 pm2 ct2 : Value} {f2 : Addr} {cd2 : Value} 
    (a2 : PySem.W.nsIn K mainGlobals "is_row" = some (some (.ref f2)))
    (l2 : K.lookup f2 = some ⟨oc2, od2, .func (PySem.W.fnOf "is_row" "is_row" (defArgs s_is_row) (defBody s_is_row) (defScope s_is_row) .none kV2 dc2 pm2 an2 cd2 ct2), sl2⟩)
    (c2 : PySem.W.codeIn K cd2 "is_row" = true)
    (k2 : PySem.W.keepIn K (.ref f2) = true)
    {od3 an3 : Option Addr} {sl3 : Array (Option Value)} {oc3 kV3 dc3 pm3 ct3 : Value} {f3 : Addr} {cd3 : Value} 
    (a3 : PySem.W.nsIn K mainGlobals "are_bits" = some (some (.ref f3)))
    (l3 : K.lookup f3 = some ⟨oc3, od3, .func (PySem.W.fnOf "are_bits" "are_bits" (defArgs s_are_bits) (defBody s_are_bits) (defScope s_are_bits) .none kV3 dc3 pm3 an3 cd3 ct3), sl3⟩)
    (c3 : PySem.W.codeIn K cd3 "are_bits" = true)
    (k3 : PySem.W.keepIn K (.ref f3) = true)
    {od4 an4 : Option Addr} {sl4 : Array (Option Value)} {oc4 kV4 dc4 pm4 ct4 : Value} {f4 : Addr} {cd4 : Value} 
    (a4 : PySem.W.nsIn K mainGlobals "all_rows" = some (some (.ref f4)))
    (l4 : K.lookup f4 = some ⟨oc4, od4, .func (PySem.W.fnOf "all_rows" "all_rows" (defArgs s_all_rows) (defBody s_all_rows) (defScope s_all_rows) .none kV4 dc4 pm4 an4 cd4 ct4), sl4⟩)
    (c4 : PySem.W.codeIn K cd4 "all_rows" = true)
    (k4 : PySem.W.keepIn K (.ref f4) = true)
    {od5 an5 : Option Addr} {sl5 : Array (Option Value)} {oc5 kV5 dc5 pm5 ct5 : Value} {f5 : Addr} {cd5 : Value} 
    (a5 : PySem.W.nsIn K mainGlobals "cases_told" = some (some (.ref f5)))
    (l5 : K.lookup f5 = some ⟨oc5, od5, .func (PySem.W.fnOf "cases_told" "cases_told" (defArgs s_cases_told) (defBody s_cases_told) (defScope s_cases_told) .none kV5 dc5 pm5 an5 cd5 ct5), sl5⟩)
    (c5 : PySem.W.codeIn K cd5 "cases_told" = true)
    (k5 : PySem.W.keepIn K (.ref f5) = true)
    {od6 an6 : Option Addr} {sl6 : Array (Option Value)} {oc6 kV6 dc6 pm6 ct6 : Value} {f6 : Addr} {cd6 : Value} 
    (a6 : PySem.W.nsIn K mainGlobals "need_each_once" = some (some (.ref f6)))
    (l6 : K.lookup f6 = some ⟨oc6, od6, .func (PySem.W.fnOf "need_each_once" "need_each_once" (defArgs s_need_each_once) (defBody s_need_each_once) (defScope s_need_each_once) .none kV6 dc6 pm6 an6 cd6 ct6), sl6⟩)
    (c6 : PySem.W.codeIn K cd6 "need_each_once" = true)
    (k6 : PySem.W.keepIn K (.ref f6) = true)
    {od7 an7 : Option Addr} {sl7 : Array (Option Value)} {oc7 kV7 dc7 pm7 ct7 : Value} {f7 : Addr} {cd7 : Value} 
    (a7 : PySem.W.findIn K (.ref C_Book) "__init__" = some (some (.ref f7)))
    {T7 : Addr} {oT7 : Obj} {its7 : List Value} {nT7 : Nat} 
    (l7 : K.lookup f7 = some ⟨oc7, od7, .func (PySem.W.fnOf "__init__" "Book.__init__" (defArgs s_Book_init) (defBody s_Book_init) (defScope s_Book_init) (.ref T7) kV7 dc7 pm7 an7 cd7 ct7), sl7⟩)
    (c7 : PySem.W.codeIn K cd7 "Book.__init__" = true)
    (k7 : PySem.W.keepIn K (.ref f7) = true)
    (t7 : K.lookup T7 = some oT7)
    (u7 : oT7.data = .seq its7.toArray nT7)
    {dv7 : List V} 
    (v7 : Vals dv7 its7)
    (nd7 : 1 = its7.length)
    {od8 an8 : Option Addr} {sl8 : Array (Option Value)} {oc8 kV8 dc8 pm8 ct8 : Value} {f8 : Addr} {cd8 : Value} 
    (a8 : PySem.W.findIn K (.ref C_Book) "__len__" = some (some (.ref f8)))
    (l8 : K.lookup f8 = some ⟨oc8, od8, .func (PySem.W.fnOf "__len__" "Book.__len__" (defArgs s_Book_len) (defBody s_Book_len) (defScope s_Book_len) .none kV8 dc8 pm8 an8 cd8 ct8), sl8⟩)
    (c8 : PySem.W.codeIn K cd8 "Book.__len__" = true)
    (k8 : PySem.W.keepIn K (.ref f8) = true)
    {od9 an9 : Option Addr} {sl9 : Array (Option Value)} {oc9 kV9 dc9 pm9 ct9 : Value} {f9 : Addr} {cd9 : Value} 
    (a9 : PySem.W.findIn K (.ref C_Book) "__eq__" = some (some (.ref f9)))
    (l9 : K.lookup f9 = some ⟨oc9, od9, .func (PySem.W.fnOf "__eq__" "Book.__eq__" (defArgs s_Book_eq) (defBody s_Book_eq) (defScope s_Book_eq) .none kV9 dc9 pm9 an9 cd9 ct9), sl9⟩)
    (c9 : PySem.W.codeIn K cd9 "Book.__eq__" = true)
    (k9 : PySem.W.keepIn K (.ref f9) = true)
    {od10 an10 : Option Addr} {sl10 : Array (Option Value)} {oc10 kV10 dc10 pm10 ct10 : Value} {f10 : Addr} {cd10 : Value} 
    (a10 : PySem.W.findIn K (.ref C_Book) "with_case" = some (some (.ref f10)))
    (l10 : K.lookup f10 = some ⟨oc10, od10, .func (PySem.W.fnOf "with_case" "Book.with_case" (defArgs s_Book_with_case) (defBody s_Book_with_case) (defScope s_Book_with_case) .none kV10 dc10 pm10 an10 cd10 ct10), sl10⟩)
    (c10 : PySem.W.codeIn K cd10 "Book.with_case" = true)
    (k10 : PySem.W.keepIn K (.ref f10) = true)
    {od11 an11 : Option Addr} {sl11 : Array (Option Value)} {oc11 kV11 dc11 pm11 ct11 : Value} {f11 : Addr} {cd11 : Value} 
    (a11 : PySem.W.nsIn K mainGlobals "need_book" = some (some (.ref f11)))
    (l11 : K.lookup f11 = some ⟨oc11, od11, .func (PySem.W.fnOf "need_book" "need_book" (defArgs s_need_book) (defBody s_need_book) (defScope s_need_book) .none kV11 dc11 pm11 an11 cd11 ct11), sl11⟩)
    (c11 : PySem.W.codeIn K cd11 "need_book" = true)
    (k11 : PySem.W.keepIn K (.ref f11) = true)
    {od12 an12 : Option Addr} {sl12 : Array (Option Value)} {oc12 kV12 dc12 pm12 ct12 : Value} {f12 : Addr} {cd12 : Value} 
    (a12 : PySem.W.nsIn K mainGlobals "need_places" = some (some (.ref f12)))
    (l12 : K.lookup f12 = some ⟨oc12, od12, .func (PySem.W.fnOf "need_places" "need_places" (defArgs s_need_places) (defBody s_need_places) (defScope s_need_places) .none kV12 dc12 pm12 an12 cd12 ct12), sl12⟩)
    (c12 : PySem.W.codeIn K cd12 "need_places" = true)
    (k12 : PySem.W.keepIn K (.ref f12) = true)
    {od13 an13 : Option Addr} {sl13 : Array (Option Value)} {oc13 kV13 dc13 pm13 ct13 : Value} {f13 : Addr} {cd13 : Value} 
    (a13 : PySem.W.nsIn K mainGlobals "need_row_of" = some (some (.ref f13)))
    (l13 : K.lookup f13 = some ⟨oc13, od13, .func (PySem.W.fnOf "need_row_of" "need_row_of" (defArgs s_need_row_of) (defBody s_need_row_of) (defScope s_need_row_of) .none kV13 dc13 pm13 an13 cd13 ct13), sl13⟩)
    (c13 : PySem.W.codeIn K cd13 "need_row_of" = true)
    (k13 : PySem.W.keepIn K (.ref f13) = true)
    {od14 an14 : Option Addr} {sl14 : Array (Option Value)} {oc14 kV14 dc14 pm14 ct14 : Value} {f14 : Addr} {cd14 : Value} 
    (a14 : PySem.W.nsIn K mainGlobals "fixed" = some (some (.ref f14)))
    (l14 : K.lookup f14 = some ⟨oc14, od14, .func (PySem.W.fnOf "fixed" "fixed" (defArgs s_fixed) (defBody s_fixed) (defScope s_fixed) .none kV14 dc14 pm14 an14 cd14 ct14), sl14⟩)
    (c14 : PySem.W.codeIn K cd14 "fixed" = true)
    (k14 : PySem.W.keepIn K (.ref f14) = true)
    {od15 an15 : Option Addr} {sl15 : Array (Option Value)} {oc15 kV15 dc15 pm15 ct15 : Value} {f15 : Addr} {cd15 : Value} 
    (a15 : PySem.W.findIn K (.ref C_Paper) "__init__" = some (some (.ref f15)))
    (l15 : K.lookup f15 = some ⟨oc15, od15, .func (PySem.W.fnOf "__init__" "Paper.__init__" (defArgs s_Paper_init) (defBody s_Paper_init) (defScope s_Paper_init) .none kV15 dc15 pm15 an15 cd15 ct15), sl15⟩)
    (c15 : PySem.W.codeIn K cd15 "Paper.__init__" = true)
    {od16 an16 : Option Addr} {sl16 : Array (Option Value)} {oc16 kV16 dc16 pm16 ct16 : Value} {f16 : Addr} {cd16 : Value} 
    (a16 : PySem.W.findIn K (.ref C_Paper) "__eq__" = some (some (.ref f16)))
    (l16 : K.lookup f16 = some ⟨oc16, od16, .func (PySem.W.fnOf "__eq__" "Paper.__eq__" (defArgs s_Paper_eq) (defBody s_Paper_eq) (defScope s_Paper_eq) .none kV16 dc16 pm16 an16 cd16 ct16), sl16⟩)
    (c16 : PySem.W.codeIn K cd16 "Paper.__eq__" = true)
    (k16 : PySem.W.keepIn K (.ref f16) = true)
    {od17 an17 : Option Addr} {sl17 : Array (Option Value)} {oc17 kV17 dc17 pm17 ct17 : Value} {f17 : Addr} {cd17 : Value} 
    (a17 : PySem.W.nsIn K mainGlobals "is_bits" = some (some (.ref f17)))
    (l17 : K.lookup f17 = some ⟨oc17, od17, .func (PySem.W.fnOf "is_bits" "is_bits" (defArgs s_is_bits) (defBody s_is_bits) (defScope s_is_bits) .none kV17 dc17 pm17 an17 cd17 ct17), sl17⟩)
    (c17 : PySem.W.codeIn K cd17 "is_bits" = true)
    (k17 : PySem.W.keepIn K (.ref f17) = true)
    {od18 an18 : Option Addr} {sl18 : Array (Option Value)} {oc18 kV18 dc18 pm18 ct18 : Value} {f18 : Addr} {cd18 : Value} 
    (a18 : PySem.W.nsIn K mainGlobals "need_bits" = some (some (.ref f18)))
    (l18 : K.lookup f18 = some ⟨oc18, od18, .func (PySem.W.fnOf "need_bits" "need_bits" (defArgs s_need_bits) (defBody s_need_bits) (defScope s_need_bits) .none kV18 dc18 pm18 an18 cd18 ct18), sl18⟩)
    (c18 : PySem.W.codeIn K cd18 "need_bits" = true)
    (k18 : PySem.W.keepIn K (.ref f18) = true)
    {od19 an19 : Option Addr} {sl19 : Array (Option Value)} {oc19 kV19 dc19 pm19 ct19 : Value} {f19 : Addr} 
    (a19 : PySem.W.findIn K (.ref C_Adder) "__init__" = some (some (.ref f19)))
    {cc19 ca19 : Addr} {xcl19 : Value} {xcd19 : Option Addr} {xvs19 : Array Value} {xcs19 : Array (Option Value)} {file19 : Str} {tf19 : Tok} {ycl19 : Value} {ycd19 : Option Addr} {ycs19 : Array (Option Value)} {cdD19 : ClassData} 
    (l19 : K.lookup f19 = some ⟨oc19, od19, .func (PySem.W.fnX "__init__" "Adder.__init__" (defArgs s_Adder_init) (defBody s_Adder_init) (defScope s_Adder_init) [("__class__", cc19)] .none kV19 dc19 pm19 an19 (.ref ca19) ct19), sl19⟩)
    (c19 : PySem.W.codeIn K (.ref ca19) "Adder.__init__" = true)
    (x19 : K.lookup ca19 = some ⟨xcl19, xcd19, .fields xvs19, xcs19⟩)
    (u19 : xvs19[2]? = some (.str file19 tf19))
    (v19 : ((l.prog.main.file : Str) == file19) = true)
    (y19 : K.lookup cc19 = some ⟨ycl19, ycd19, .cell (some (.ref C_Adder)), ycs19⟩)
    (w19 : PySem.W.clsIn K C_Adder = some cdD19)
    (z_super : PySem.W.nsIn K mainGlobals "super" = some none)
    (t_super : (l.prog.main.scope.names.lookup ("super" : Str)).isSome = false)
    {od20 an20 : Option Addr} {sl20 : Array (Option Value)} {oc20 kV20 dc20 pm20 ct20 : Value} {f20 : Addr} {cd20 : Value} 
    (a20 : PySem.W.findIn K (.ref C_Adder) "outcome" = some (some (.ref f20)))
    (l20 : K.lookup f20 = some ⟨oc20, od20, .func (PySem.W.fnOf "outcome" "Adder.outcome" (defArgs s_Adder_outcome) (defBody s_Adder_outcome) (defScope s_Adder_outcome) .none kV20 dc20 pm20 an20 cd20 ct20), sl20⟩)
    (c20 : PySem.W.codeIn K cd20 "Adder.outcome" = true)
    (k20 : PySem.W.keepIn K (.ref f20) = true)
    {od21 an21 : Option Addr} {sl21 : Array (Option Value)} {oc21 kV21 dc21 pm21 ct21 : Value} {f21 : Addr} {cd21 : Value} 
    (a21 : PySem.W.nsIn K mainGlobals "is_adder" = some (some (.ref f21)))
    (l21 : K.lookup f21 = some ⟨oc21, od21, .func (PySem.W.fnOf "is_adder" "is_adder" (defArgs s_is_adder) (defBody s_is_adder) (defScope s_is_adder) .none kV21 dc21 pm21 an21 cd21 ct21), sl21⟩)
    (c21 : PySem.W.codeIn K cd21 "is_adder" = true)
    (k21 : PySem.W.keepIn K (.ref f21) = true)
    {od22 an22 : Option Addr} {sl22 : Array (Option Value)} {oc22 kV22 dc22 pm22 ct22 : Value} {f22 : Addr} {cd22 : Value} 
    (a22 : PySem.W.nsIn K mainGlobals "need_adder" = some (some (.ref f22)))
    (l22 : K.lookup f22 = some ⟨oc22, od22, .func (PySem.W.fnOf "need_adder" "need_adder" (defArgs s_need_adder) (defBody s_need_adder) (defScope s_need_adder) .none kV22 dc22 pm22 an22 cd22 ct22), sl22⟩)
    (c22 : PySem.W.codeIn K cd22 "need_adder" = true)
    (k22 : PySem.W.keepIn K (.ref f22) = true)
    {od23 an23 : Option Addr} {sl23 : Array (Option Value)} {oc23 kV23 dc23 pm23 ct23 : Value} {f23 : Addr} {cd23 : Value} 
    (a23 : PySem.W.nsIn K mainGlobals "added" = some (some (.ref f23)))
    (l23 : K.lookup f23 = some ⟨oc23, od23, .func (PySem.W.fnOf "added" "added" (defArgs s_added) (defBody s_added) (defScope s_added) .none kV23 dc23 pm23 an23 cd23 ct23), sl23⟩)
    (c23 : PySem.W.codeIn K cd23 "added" = true)
    (k23 : PySem.W.keepIn K (.ref f23) = true)
    {od24 an24 : Option Addr} {sl24 : Array (Option Value)} {oc24 kV24 dc24 pm24 ct24 : Value} {f24 : Addr} 
    (a24 : PySem.W.findIn K (.ref C_Fits) "__init__" = some (some (.ref f24)))
    {cc24 ca24 : Addr} {xcl24 : Value} {xcd24 : Option Addr} {xvs24 : Array Value} {xcs24 : Array (Option Value)} {file24 : Str} {tf24 : Tok} {ycl24 : Value} {ycd24 : Option Addr} {ycs24 : Array (Option Value)} {cdD24 : ClassData} 
    (l24 : K.lookup f24 = some ⟨oc24, od24, .func (PySem.W.fnX "__init__" "Fits.__init__" (defArgs s_Fits_init) (defBody s_Fits_init) (defScope s_Fits_init) [("__class__", cc24)] .none kV24 dc24 pm24 an24 (.ref ca24) ct24), sl24⟩)
    (c24 : PySem.W.codeIn K (.ref ca24) "Fits.__init__" = true)
    (x24 : K.lookup ca24 = some ⟨xcl24, xcd24, .fields xvs24, xcs24⟩)
    (u24 : xvs24[2]? = some (.str file24 tf24))
    (v24 : ((l.prog.main.file : Str) == file24) = true)
    (y24 : K.lookup cc24 = some ⟨ycl24, ycd24, .cell (some (.ref C_Fits)), ycs24⟩)
    (w24 : PySem.W.clsIn K C_Fits = some cdD24)
    {od25 an25 : Option Addr} {sl25 : Array (Option Value)} {oc25 kV25 dc25 pm25 ct25 : Value} {f25 : Addr} 
    (a25 : PySem.W.findIn K (.ref C_Quarrel) "__init__" = some (some (.ref f25)))
    {cc25 ca25 : Addr} {xcl25 : Value} {xcd25 : Option Addr} {xvs25 : Array Value} {xcs25 : Array (Option Value)} {file25 : Str} {tf25 : Tok} {ycl25 : Value} {ycd25 : Option Addr} {ycs25 : Array (Option Value)} {cdD25 : ClassData} 
    (l25 : K.lookup f25 = some ⟨oc25, od25, .func (PySem.W.fnX "__init__" "Quarrel.__init__" (defArgs s_Quarrel_init) (defBody s_Quarrel_init) (defScope s_Quarrel_init) [("__class__", cc25)] .none kV25 dc25 pm25 an25 (.ref ca25) ct25), sl25⟩)
    (c25 : PySem.W.codeIn K (.ref ca25) "Quarrel.__init__" = true)
    (x25 : K.lookup ca25 = some ⟨xcl25, xcd25, .fields xvs25, xcs25⟩)
    (u25 : xvs25[2]? = some (.str file25 tf25))
    (v25 : ((l.prog.main.file : Str) == file25) = true)
    (y25 : K.lookup cc25 = some ⟨ycl25, ycd25, .cell (some (.ref C_Quarrel)), ycs25⟩)
    (w25 : PySem.W.clsIn K C_Quarrel = some cdD25)
    {od26 an26 : Option Addr} {sl26 : Array (Option Value)} {oc26 kV26 dc26 pm26 ct26 : Value} {f26 : Addr} 
    (a26 : PySem.W.findIn K (.ref C_Forced) "__init__" = some (some (.ref f26)))
    {cc26 ca26 : Addr} {xcl26 : Value} {xcd26 : Option Addr} {xvs26 : Array Value} {xcs26 : Array (Option Value)} {file26 : Str} {tf26 : Tok} {ycl26 : Value} {ycd26 : Option Addr} {ycs26 : Array (Option Value)} {cdD26 : ClassData} 
    (l26 : K.lookup f26 = some ⟨oc26, od26, .func (PySem.W.fnX "__init__" "Forced.__init__" (defArgs s_Forced_init) (defBody s_Forced_init) (defScope s_Forced_init) [("__class__", cc26)] .none kV26 dc26 pm26 an26 (.ref ca26) ct26), sl26⟩)
    (c26 : PySem.W.codeIn K (.ref ca26) "Forced.__init__" = true)
    (x26 : K.lookup ca26 = some ⟨xcl26, xcd26, .fields xvs26, xcs26⟩)
    (u26 : xvs26[2]? = some (.str file26 tf26))
    (v26 : ((l.prog.main.file : Str) == file26) = true)
    (y26 : K.lookup cc26 = some ⟨ycl26, ycd26, .cell (some (.ref C_Forced)), ycs26⟩)
    (w26 : PySem.W.clsIn K C_Forced = some cdD26)
    {od27 an27 : Option Addr} {sl27 : Array (Option Value)} {oc27 kV27 dc27 pm27 ct27 : Value} {f27 : Addr} 
    (a27 : PySem.W.findIn K (.ref C_Open) "__init__" = some (some (.ref f27)))
    {cc27 ca27 : Addr} {xcl27 : Value} {xcd27 : Option Addr} {xvs27 : Array Value} {xcs27 : Array (Option Value)} {file27 : Str} {tf27 : Tok} {ycl27 : Value} {ycd27 : Option Addr} {ycs27 : Array (Option Value)} {cdD27 : ClassData} 
    (l27 : K.lookup f27 = some ⟨oc27, od27, .func (PySem.W.fnX "__init__" "Open.__init__" (defArgs s_Open_init) (defBody s_Open_init) (defScope s_Open_init) [("__class__", cc27)] .none kV27 dc27 pm27 an27 (.ref ca27) ct27), sl27⟩)
    (c27 : PySem.W.codeIn K (.ref ca27) "Open.__init__" = true)
    (x27 : K.lookup ca27 = some ⟨xcl27, xcd27, .fields xvs27, xcs27⟩)
    (u27 : xvs27[2]? = some (.str file27 tf27))
    (v27 : ((l.prog.main.file : Str) == file27) = true)
    (y27 : K.lookup cc27 = some ⟨ycl27, ycd27, .cell (some (.ref C_Open)), ycs27⟩)
    (w27 : PySem.W.clsIn K C_Open = some cdD27)
    {od28 an28 : Option Addr} {sl28 : Array (Option Value)} {oc28 kV28 dc28 pm28 ct28 : Value} {f28 : Addr} {cd28 : Value} 
    (a28 : PySem.W.nsIn K mainGlobals "vector_of" = some (some (.ref f28)))
    (l28 : K.lookup f28 = some ⟨oc28, od28, .func (PySem.W.fnOf "vector_of" "vector_of" (defArgs s_vector_of) (defBody s_vector_of) (defScope s_vector_of) .none kV28 dc28 pm28 an28 cd28 ct28), sl28⟩)
    (c28 : PySem.W.codeIn K cd28 "vector_of" = true)
    (k28 : PySem.W.keepIn K (.ref f28) = true)
    {od29 an29 : Option Addr} {sl29 : Array (Option Value)} {oc29 kV29 dc29 pm29 ct29 : Value} {f29 : Addr} {cd29 : Value} 
    (a29 : PySem.W.nsIn K mainGlobals "numbers_in" = some (some (.ref f29)))
    (l29 : K.lookup f29 = some ⟨oc29, od29, .func (PySem.W.fnOf "numbers_in" "numbers_in" (defArgs s_numbers_in) (defBody s_numbers_in) (defScope s_numbers_in) .none kV29 dc29 pm29 an29 cd29 ct29), sl29⟩)
    (c29 : PySem.W.codeIn K cd29 "numbers_in" = true)
    (k29 : PySem.W.keepIn K (.ref f29) = true)
    {od30 an30 : Option Addr} {sl30 : Array (Option Value)} {oc30 kV30 dc30 pm30 ct30 : Value} {f30 : Addr} {cd30 : Value} 
    (a30 : PySem.W.nsIn K mainGlobals "reduced" = some (some (.ref f30)))
    (l30 : K.lookup f30 = some ⟨oc30, od30, .func (PySem.W.fnOf "reduced" "reduced" (defArgs s_reduced) (defBody s_reduced) (defScope s_reduced) .none kV30 dc30 pm30 an30 cd30 ct30), sl30⟩)
    (c30 : PySem.W.codeIn K cd30 "reduced" = true)
    (k30 : PySem.W.keepIn K (.ref f30) = true)
    {od31 an31 : Option Addr} {sl31 : Array (Option Value)} {oc31 kV31 dc31 pm31 ct31 : Value} {f31 : Addr} {cd31 : Value} 
    (a31 : PySem.W.nsIn K mainGlobals "wider" = some (some (.ref f31)))
    (l31 : K.lookup f31 = some ⟨oc31, od31, .func (PySem.W.fnOf "wider" "wider" (defArgs s_wider) (defBody s_wider) (defScope s_wider) .none kV31 dc31 pm31 an31 cd31 ct31), sl31⟩)
    (c31 : PySem.W.codeIn K cd31 "wider" = true)
    (k31 : PySem.W.keepIn K (.ref f31) = true)
    {od32 an32 : Option Addr} {sl32 : Array (Option Value)} {oc32 kV32 dc32 pm32 ct32 : Value} {f32 : Addr} {cd32 : Value} 
    (a32 : PySem.W.nsIn K mainGlobals "base_of" = some (some (.ref f32)))
    (l32 : K.lookup f32 = some ⟨oc32, od32, .func (PySem.W.fnOf "base_of" "base_of" (defArgs s_base_of) (defBody s_base_of) (defScope s_base_of) .none kV32 dc32 pm32 an32 cd32 ct32), sl32⟩)
    (c32 : PySem.W.codeIn K cd32 "base_of" = true)
    (k32 : PySem.W.keepIn K (.ref f32) = true)
    {od33 an33 : Option Addr} {sl33 : Array (Option Value)} {oc33 kV33 dc33 pm33 ct33 : Value} {f33 : Addr} {cd33 : Value} 
    (a33 : PySem.W.nsIn K mainGlobals "adder_by" = some (some (.ref f33)))
    (l33 : K.lookup f33 = some ⟨oc33, od33, .func (PySem.W.fnOf "adder_by" "adder_by" (defArgs s_adder_by) (defBody s_adder_by) (defScope s_adder_by) .none kV33 dc33 pm33 an33 cd33 ct33), sl33⟩)
    (c33 : PySem.W.codeIn K cd33 "adder_by" = true)
    (k33 : PySem.W.keepIn K (.ref f33) = true)
    {od34 an34 : Option Addr} {sl34 : Array (Option Value)} {oc34 kV34 dc34 pm34 ct34 : Value} {f34 : Addr} {cd34 : Value} 
    (a34 : PySem.W.nsIn K mainGlobals "possible_base" = some (some (.ref f34)))
    (l34 : K.lookup f34 = some ⟨oc34, od34, .func (PySem.W.fnOf "possible_base" "possible_base" (defArgs s_possible_base) (defBody s_possible_base) (defScope s_possible_base) .none kV34 dc34 pm34 an34 cd34 ct34), sl34⟩)
    (c34 : PySem.W.codeIn K cd34 "possible_base" = true)
    (k34 : PySem.W.keepIn K (.ref f34) = true)
    {od35 an35 : Option Addr} {sl35 : Array (Option Value)} {oc35 kV35 dc35 pm35 ct35 : Value} {f35 : Addr} {cd35 : Value} 
    (a35 : PySem.W.nsIn K mainGlobals "quarrel" = some (some (.ref f35)))
    (l35 : K.lookup f35 = some ⟨oc35, od35, .func (PySem.W.fnOf "quarrel" "quarrel" (defArgs s_quarrel) (defBody s_quarrel) (defScope s_quarrel) .none kV35 dc35 pm35 an35 cd35 ct35), sl35⟩)
    (c35 : PySem.W.codeIn K cd35 "quarrel" = true)
    (k35 : PySem.W.keepIn K (.ref f35) = true)
    {od36 an36 : Option Addr} {sl36 : Array (Option Value)} {oc36 kV36 dc36 pm36 ct36 : Value} {f36 : Addr} {cd36 : Value} 
    (a36 : PySem.W.nsIn K mainGlobals "word_of" = some (some (.ref f36)))
    (l36 : K.lookup f36 = some ⟨oc36, od36, .func (PySem.W.fnOf "word_of" "word_of" (defArgs s_word_of) (defBody s_word_of) (defScope s_word_of) .none kV36 dc36 pm36 an36 cd36 ct36), sl36⟩)
    (c36 : PySem.W.codeIn K cd36 "word_of" = true)
    (k36 : PySem.W.keepIn K (.ref f36) = true)
    {od37 an37 : Option Addr} {sl37 : Array (Option Value)} {oc37 kV37 dc37 pm37 ct37 : Value} {f37 : Addr} {cd37 : Value} 
    (a37 : PySem.W.nsIn K mainGlobals "all_adders" = some (some (.ref f37)))
    (l37 : K.lookup f37 = some ⟨oc37, od37, .func (PySem.W.fnOf "all_adders" "all_adders" (defArgs s_all_adders) (defBody s_all_adders) (defScope s_all_adders) .none kV37 dc37 pm37 an37 cd37 ct37), sl37⟩)
    (c37 : PySem.W.codeIn K cd37 "all_adders" = true)
    (k37 : PySem.W.keepIn K (.ref f37) = true)
    {od38 an38 : Option Addr} {sl38 : Array (Option Value)} {oc38 kV38 dc38 pm38 ct38 : Value} {f38 : Addr} {cd38 : Value} 
    (a38 : PySem.W.nsIn K mainGlobals "wrong_at" = some (some (.ref f38)))
    (l38 : K.lookup f38 = some ⟨oc38, od38, .func (PySem.W.fnOf "wrong_at" "wrong_at" (defArgs s_wrong_at) (defBody s_wrong_at) (defScope s_wrong_at) .none kV38 dc38 pm38 an38 cd38 ct38), sl38⟩)
    (c38 : PySem.W.codeIn K cd38 "wrong_at" = true)
    (k38 : PySem.W.keepIn K (.ref f38) = true)
    {od39 an39 : Option Addr} {sl39 : Array (Option Value)} {oc39 kV39 dc39 pm39 ct39 : Value} {f39 : Addr} {cd39 : Value} 
    (a39 : PySem.W.nsIn K mainGlobals "fitting" = some (some (.ref f39)))
    (l39 : K.lookup f39 = some ⟨oc39, od39, .func (PySem.W.fnOf "fitting" "fitting" (defArgs s_fitting) (defBody s_fitting) (defScope s_fitting) .none kV39 dc39 pm39 an39 cd39 ct39), sl39⟩)
    (c39 : PySem.W.codeIn K cd39 "fitting" = true)
    (k39 : PySem.W.keepIn K (.ref f39) = true)
    {od40 an40 : Option Addr} {sl40 : Array (Option Value)} {oc40 kV40 dc40 pm40 ct40 : Value} {f40 : Addr} {cd40 : Value} 
    (a40 : PySem.W.nsIn K mainGlobals "_law_well" = some (some (.ref f40)))
    (l40 : K.lookup f40 = some ⟨oc40, od40, .func (PySem.W.fnOf "_law_well" "_law_well" (defArgs s__law_well) (defBody s__law_well) (defScope s__law_well) .none kV40 dc40 pm40 an40 cd40 ct40), sl40⟩)
    (c40 : PySem.W.codeIn K cd40 "_law_well" = true)
    (k40 : PySem.W.keepIn K (.ref f40) = true)
    {od41 an41 : Option Addr} {sl41 : Array (Option Value)} {oc41 kV41 dc41 pm41 ct41 : Value} {f41 : Addr} {cd41 : Value} 
    (a41 : PySem.W.nsIn K mainGlobals "_law_sip" = some (some (.ref f41)))
    (l41 : K.lookup f41 = some ⟨oc41, od41, .func (PySem.W.fnOf "_law_sip" "_law_sip" (defArgs s__law_sip) (defBody s__law_sip) (defScope s__law_sip) .none kV41 dc41 pm41 an41 cd41 ct41), sl41⟩)
    (c41 : PySem.W.codeIn K cd41 "_law_sip" = true)
    (k41 : PySem.W.keepIn K (.ref f41) = true)
    {od42 an42 : Option Addr} {sl42 : Array (Option Value)} {oc42 kV42 dc42 pm42 ct42 : Value} {f42 : Addr} {cd42 : Value} 
    (a42 : PySem.W.nsIn K mainGlobals "_law_pick" = some (some (.ref f42)))
    (l42 : K.lookup f42 = some ⟨oc42, od42, .func (PySem.W.fnOf "_law_pick" "_law_pick" (defArgs s__law_pick) (defBody s__law_pick) (defScope s__law_pick) .none kV42 dc42 pm42 an42 cd42 ct42), sl42⟩)
    (c42 : PySem.W.codeIn K cd42 "_law_pick" = true)
    (k42 : PySem.W.keepIn K (.ref f42) = true)
    {od43 an43 : Option Addr} {sl43 : Array (Option Value)} {oc43 kV43 dc43 pm43 ct43 : Value} {f43 : Addr} {cd43 : Value} 
    (a43 : PySem.W.nsIn K mainGlobals "_law_rows" = some (some (.ref f43)))
    (l43 : K.lookup f43 = some ⟨oc43, od43, .func (PySem.W.fnOf "_law_rows" "_law_rows" (defArgs s__law_rows) (defBody s__law_rows) (defScope s__law_rows) .none kV43 dc43 pm43 an43 cd43 ct43), sl43⟩)
    (c43 : PySem.W.codeIn K cd43 "_law_rows" = true)
    (k43 : PySem.W.keepIn K (.ref f43) = true)
    {od44 an44 : Option Addr} {sl44 : Array (Option Value)} {oc44 kV44 dc44 pm44 ct44 : Value} {f44 : Addr} {cd44 : Value} 
    (a44 : PySem.W.nsIn K mainGlobals "_law_adders" = some (some (.ref f44)))
    (l44 : K.lookup f44 = some ⟨oc44, od44, .func (PySem.W.fnOf "_law_adders" "_law_adders" (defArgs s__law_adders) (defBody s__law_adders) (defScope s__law_adders) .none kV44 dc44 pm44 an44 cd44 ct44), sl44⟩)
    (c44 : PySem.W.codeIn K cd44 "_law_adders" = true)
    (k44 : PySem.W.keepIn K (.ref f44) = true)
    {od45 an45 : Option Addr} {sl45 : Array (Option Value)} {oc45 kV45 dc45 pm45 ct45 : Value} {f45 : Addr} {cd45 : Value} 
    (a45 : PySem.W.nsIn K mainGlobals "_law_gives" = some (some (.ref f45)))
    (l45 : K.lookup f45 = some ⟨oc45, od45, .func (PySem.W.fnOf "_law_gives" "_law_gives" (defArgs s__law_gives) (defBody s__law_gives) (defScope s__law_gives) .none kV45 dc45 pm45 an45 cd45 ct45), sl45⟩)
    (c45 : PySem.W.codeIn K cd45 "_law_gives" = true)
    (k45 : PySem.W.keepIn K (.ref f45) = true)
    {od46 an46 : Option Addr} {sl46 : Array (Option Value)} {oc46 kV46 dc46 pm46 ct46 : Value} {f46 : Addr} {cd46 : Value} 
    (a46 : PySem.W.nsIn K mainGlobals "_law_fits" = some (some (.ref f46)))
    (l46 : K.lookup f46 = some ⟨oc46, od46, .func (PySem.W.fnOf "_law_fits" "_law_fits" (defArgs s__law_fits) (defBody s__law_fits) (defScope s__law_fits) .none kV46 dc46 pm46 an46 cd46 ct46), sl46⟩)
    (c46 : PySem.W.codeIn K cd46 "_law_fits" = true)
    (k46 : PySem.W.keepIn K (.ref f46) = true)
    {od47 an47 : Option Addr} {sl47 : Array (Option Value)} {oc47 kV47 dc47 pm47 ct47 : Value} {f47 : Addr} {cd47 : Value} 
    (a47 : PySem.W.nsIn K mainGlobals "law" = some (some (.ref f47)))
    (l47 : K.lookup f47 = some ⟨oc47, od47, .func (PySem.W.fnOf "law" "law" (defArgs s_law) (defBody s_law) (defScope s_law) .none kV47 dc47 pm47 an47 cd47 ct47), sl47⟩)
    (c47 : PySem.W.codeIn K cd47 "law" = true)
    (k47 : PySem.W.keepIn K (.ref f47) = true)
    (oG : PySem.W.specialIn K (.builtin "object.__class__") "__get__" = some (some (.builtin "getset_descriptor.__get__")))
    (oT : PySem.W.takesIn K (.builtin "object.__class__") = some true)
    (oS : PySem.W.nsIn K cStatics "thirdparty.any" = some none)
    (mk1_Book : PySem.W.makesIn K C_Book = true)
    (mk2_Book : PySem.W.findIn K (.ref C_Book) "__init__" = some (some (.ref f7)))
    (mk3_Book : PySem.W.isFn K (.ref f7) = true)
    (mk4_Book : PySem.W.keepIn K (.ref C_Book) = true)
    (p1_Book : PySem.W.plainGet K C_Book Str.empty = true)
    (p2_Book : PySem.W.hasDictIn K C_Book = true)
    (p3_Book : PySem.W.plainOver K C_Book = true)
    (p4_Book : PySem.W.findIn K (.ref C_Book) "__setattr__" = some (some (.builtin "object.__setattr__")))
    (p5_Book : PySem.W.plainGet K C_Book "__class__" = true)
    (p6_Book : PySem.W.findIn K (.ref C_Book) "__class__" = some (some (.builtin "object.__class__")))
    (p7_Book : PySem.W.mroIn K C_Book (.type "object") = some true)
    {odN_Book : Option Addr} {cdN_Book : ClassData} {slN_Book : Array (Option Value)} {tkN_Book : Tok}
    (p8_Book : PySem.W.readsIn K C_Book (.type "type") = true)
    (p9_Book : PySem.W.findCls K (.ref C_Book) (.type "type") "__name__" = some (.get (.builtin "getset_descriptor.__get__") (.builtin "type.__name__") (.ref C_Book) (.type "type")))
    (p10_Book : K.lookup C_Book = some ⟨.type "type", odN_Book, .cls cdN_Book, slN_Book⟩)
    (p11_Book : slN_Book[2]? = some (some (.str "Book" tkN_Book)))
    (m1_Book_with_case : PySem.W.findIn K (.ref C_Book) "with_case" = some (some (.ref f10)))
    (m2_Book_with_case : PySem.W.isFn K (.ref f10) = true)
    (m3_Book_with_case : PySem.W.keepIn K (.ref f10) = true)
    (m1_Book___len__ : PySem.W.findIn K (.ref C_Book) "__len__" = some (some (.ref f8)))
    (m2_Book___len__ : PySem.W.isFn K (.ref f8) = true)
    (m3_Book___len__ : PySem.W.keepIn K (.ref f8) = true)
    (n_Book_places : NoAttr K C_Book "places")
    (n_Book_cases : NoAttr K C_Book "cases")
    (n_Book_rows : NoAttr K C_Book "rows")
    (n_Book_outcomes : NoAttr K C_Book "outcomes")
    (i_Book_Book : PySem.W.kitOne K (.ref C_Book) (.ref C_Book) = some true)
    (e1_Book : PySem.W.findIn K (.ref C_Book) "__eq__" = some (some (.ref f9)))
    (e2_Book : PySem.W.isFn K (.ref f9) = true)
    (e3_Book : PySem.W.findIn K (.ref C_Book) "__ne__" = some (some (.builtin "object.__ne__")))
    (e4_Book_Book : PySem.W.notFirst K C_Book (.ref C_Book) = true)
    (mk1_Adder : PySem.W.makesIn K C_Adder = true)
    (mk2_Adder : PySem.W.findIn K (.ref C_Adder) "__init__" = some (some (.ref f19)))
    (mk3_Adder : PySem.W.isFn K (.ref f19) = true)
    (mk4_Adder : PySem.W.keepIn K (.ref C_Adder) = true)
    (p1_Adder : PySem.W.plainGet K C_Adder Str.empty = true)
    (p2_Adder : PySem.W.hasDictIn K C_Adder = true)
    (p3_Adder : PySem.W.plainOver K C_Adder = true)
    (p4_Adder : PySem.W.findIn K (.ref C_Adder) "__setattr__" = some (some (.builtin "object.__setattr__")))
    (p5_Adder : PySem.W.plainGet K C_Adder "__class__" = true)
    (p6_Adder : PySem.W.findIn K (.ref C_Adder) "__class__" = some (some (.builtin "object.__class__")))
    (p7_Adder : PySem.W.mroIn K C_Adder (.type "object") = some true)
    {odN_Adder : Option Addr} {cdN_Adder : ClassData} {slN_Adder : Array (Option Value)} {tkN_Adder : Tok}
    (p8_Adder : PySem.W.readsIn K C_Adder (.type "type") = true)
    (p9_Adder : PySem.W.findCls K (.ref C_Adder) (.type "type") "__name__" = some (.get (.builtin "getset_descriptor.__get__") (.builtin "type.__name__") (.ref C_Adder) (.type "type")))
    (p10_Adder : K.lookup C_Adder = some ⟨.type "type", odN_Adder, .cls cdN_Adder, slN_Adder⟩)
    (p11_Adder : slN_Adder[2]? = some (some (.str "Adder" tkN_Adder)))
    (m1_Adder_outcome : PySem.W.findIn K (.ref C_Adder) "outcome" = some (some (.ref f20)))
    (m2_Adder_outcome : PySem.W.isFn K (.ref f20) = true)
    (m3_Adder_outcome : PySem.W.keepIn K (.ref f20) = true)
    (p12_Adder : NoAttr K C_Adder "word")
    (p13_Adder : NoAttr K C_Adder "parts")
    (p14_Adder : PySem.W.kitOne K (.ref C_Adder) (.ref C_Paper) = some true)
    (s1_Adder_Adder : PySem.W.ks_superIn K C_Adder C_Adder "__init__" = some (some (.ref f15)))
    (s2_Adder_Adder : PySem.W.typeIn K (.ref f15) = some (.type "function"))
    (s3_Adder_Adder : PySem.W.fnIn K f15 = true)
    (s4_Adder_Adder : PySem.W.mroIn K C_Adder (.ref C_Adder) = some true)
    (n_Adder_places : NoAttr K C_Adder "places")
    (n_Adder_constant : NoAttr K C_Adder "constant")
    (i_Adder_Adder : PySem.W.kitOne K (.ref C_Adder) (.ref C_Adder) = some true)
    (io_Adder_list : PySem.W.kitOne K (.ref C_Adder) (.type "list") = some false)
    (io_Adder_tuple : PySem.W.kitOne K (.ref C_Adder) (.type "tuple") = some false)
    (e1_Adder : PySem.W.findIn K (.ref C_Adder) "__eq__" = some (some (.ref f16)))
    (e2_Adder : PySem.W.isFn K (.ref f16) = true)
    (e3_Adder : PySem.W.findIn K (.ref C_Adder) "__ne__" = some (some (.builtin "object.__ne__")))
    (e4_Adder_Adder : PySem.W.notFirst K C_Adder (.ref C_Adder) = true)
    (mk1_Quarrel : PySem.W.makesIn K C_Quarrel = true)
    (mk2_Quarrel : PySem.W.findIn K (.ref C_Quarrel) "__init__" = some (some (.ref f25)))
    (mk3_Quarrel : PySem.W.isFn K (.ref f25) = true)
    (mk4_Quarrel : PySem.W.keepIn K (.ref C_Quarrel) = true)
    (p1_Quarrel : PySem.W.plainGet K C_Quarrel Str.empty = true)
    (p2_Quarrel : PySem.W.hasDictIn K C_Quarrel = true)
    (p3_Quarrel : PySem.W.plainOver K C_Quarrel = true)
    (p4_Quarrel : PySem.W.findIn K (.ref C_Quarrel) "__setattr__" = some (some (.builtin "object.__setattr__")))
    (p5_Quarrel : PySem.W.plainGet K C_Quarrel "__class__" = true)
    (p6_Quarrel : PySem.W.findIn K (.ref C_Quarrel) "__class__" = some (some (.builtin "object.__class__")))
    (p7_Quarrel : PySem.W.mroIn K C_Quarrel (.type "object") = some true)
    {odN_Quarrel : Option Addr} {cdN_Quarrel : ClassData} {slN_Quarrel : Array (Option Value)} {tkN_Quarrel : Tok}
    (p8_Quarrel : PySem.W.readsIn K C_Quarrel (.type "type") = true)
    (p9_Quarrel : PySem.W.findCls K (.ref C_Quarrel) (.type "type") "__name__" = some (.get (.builtin "getset_descriptor.__get__") (.builtin "type.__name__") (.ref C_Quarrel) (.type "type")))
    (p10_Quarrel : K.lookup C_Quarrel = some ⟨.type "type", odN_Quarrel, .cls cdN_Quarrel, slN_Quarrel⟩)
    (p11_Quarrel : slN_Quarrel[2]? = some (some (.str "Quarrel" tkN_Quarrel)))
    (p12_Quarrel : NoAttr K C_Quarrel "word")
    (p13_Quarrel : NoAttr K C_Quarrel "parts")
    (p14_Quarrel : PySem.W.kitOne K (.ref C_Quarrel) (.ref C_Paper) = some true)
    (s1_Quarrel_Quarrel : PySem.W.ks_superIn K C_Quarrel C_Quarrel "__init__" = some (some (.ref f15)))
    (s2_Quarrel_Quarrel : PySem.W.typeIn K (.ref f15) = some (.type "function"))
    (s3_Quarrel_Quarrel : PySem.W.fnIn K f15 = true)
    (s4_Quarrel_Quarrel : PySem.W.mroIn K C_Quarrel (.ref C_Quarrel) = some true)
    (n_Quarrel_numbers : NoAttr K C_Quarrel "numbers")
    (i_Quarrel_Quarrel : PySem.W.kitOne K (.ref C_Quarrel) (.ref C_Quarrel) = some true)
    (mk1_Fits : PySem.W.makesIn K C_Fits = true)
    (mk2_Fits : PySem.W.findIn K (.ref C_Fits) "__init__" = some (some (.ref f24)))
    (mk3_Fits : PySem.W.isFn K (.ref f24) = true)
    (mk4_Fits : PySem.W.keepIn K (.ref C_Fits) = true)
    (p1_Fits : PySem.W.plainGet K C_Fits Str.empty = true)
    (p2_Fits : PySem.W.hasDictIn K C_Fits = true)
    (p3_Fits : PySem.W.plainOver K C_Fits = true)
    (p4_Fits : PySem.W.findIn K (.ref C_Fits) "__setattr__" = some (some (.builtin "object.__setattr__")))
    (p5_Fits : PySem.W.plainGet K C_Fits "__class__" = true)
    (p6_Fits : PySem.W.findIn K (.ref C_Fits) "__class__" = some (some (.builtin "object.__class__")))
    (p7_Fits : PySem.W.mroIn K C_Fits (.type "object") = some true)
    {odN_Fits : Option Addr} {cdN_Fits : ClassData} {slN_Fits : Array (Option Value)} {tkN_Fits : Tok}
    (p8_Fits : PySem.W.readsIn K C_Fits (.type "type") = true)
    (p9_Fits : PySem.W.findCls K (.ref C_Fits) (.type "type") "__name__" = some (.get (.builtin "getset_descriptor.__get__") (.builtin "type.__name__") (.ref C_Fits) (.type "type")))
    (p10_Fits : K.lookup C_Fits = some ⟨.type "type", odN_Fits, .cls cdN_Fits, slN_Fits⟩)
    (p11_Fits : slN_Fits[2]? = some (some (.str "Fits" tkN_Fits)))
    (p12_Fits : NoAttr K C_Fits "word")
    (p13_Fits : NoAttr K C_Fits "parts")
    (p14_Fits : PySem.W.kitOne K (.ref C_Fits) (.ref C_Paper) = some true)
    (s1_Fits_Fits : PySem.W.ks_superIn K C_Fits C_Fits "__init__" = some (some (.ref f15)))
    (s2_Fits_Fits : PySem.W.typeIn K (.ref f15) = some (.type "function"))
    (s3_Fits_Fits : PySem.W.fnIn K f15 = true)
    (s4_Fits_Fits : PySem.W.mroIn K C_Fits (.ref C_Fits) = some true)
    (n_Fits_adder : NoAttr K C_Fits "adder")
    (mk1_Open : PySem.W.makesIn K C_Open = true)
    (mk2_Open : PySem.W.findIn K (.ref C_Open) "__init__" = some (some (.ref f27)))
    (mk3_Open : PySem.W.isFn K (.ref f27) = true)
    (mk4_Open : PySem.W.keepIn K (.ref C_Open) = true)
    (p1_Open : PySem.W.plainGet K C_Open Str.empty = true)
    (p2_Open : PySem.W.hasDictIn K C_Open = true)
    (p3_Open : PySem.W.plainOver K C_Open = true)
    (p4_Open : PySem.W.findIn K (.ref C_Open) "__setattr__" = some (some (.builtin "object.__setattr__")))
    (p5_Open : PySem.W.plainGet K C_Open "__class__" = true)
    (p6_Open : PySem.W.findIn K (.ref C_Open) "__class__" = some (some (.builtin "object.__class__")))
    (p7_Open : PySem.W.mroIn K C_Open (.type "object") = some true)
    {odN_Open : Option Addr} {cdN_Open : ClassData} {slN_Open : Array (Option Value)} {tkN_Open : Tok}
    (p8_Open : PySem.W.readsIn K C_Open (.type "type") = true)
    (p9_Open : PySem.W.findCls K (.ref C_Open) (.type "type") "__name__" = some (.get (.builtin "getset_descriptor.__get__") (.builtin "type.__name__") (.ref C_Open) (.type "type")))
    (p10_Open : K.lookup C_Open = some ⟨.type "type", odN_Open, .cls cdN_Open, slN_Open⟩)
    (p11_Open : slN_Open[2]? = some (some (.str "Open" tkN_Open)))
    (p12_Open : NoAttr K C_Open "word")
    (p13_Open : NoAttr K C_Open "parts")
    (p14_Open : PySem.W.kitOne K (.ref C_Open) (.ref C_Paper) = some true)
    (s1_Open_Open : PySem.W.ks_superIn K C_Open C_Open "__init__" = some (some (.ref f15)))
    (s2_Open_Open : PySem.W.typeIn K (.ref f15) = some (.type "function"))
    (s3_Open_Open : PySem.W.fnIn K f15 = true)
    (s4_Open_Open : PySem.W.mroIn K C_Open (.ref C_Open) = some true)
    (n_Open_one : NoAttr K C_Open "one")
    (n_Open_other : NoAttr K C_Open "other")
    (i_Open_Forced : PySem.W.kitOne K (.ref C_Open) (.ref C_Forced) = some false)
    (i_Open_Open : PySem.W.kitOne K (.ref C_Open) (.ref C_Open) = some true)
    (e1_Open : PySem.W.findIn K (.ref C_Open) "__eq__" = some (some (.ref f16)))
    (e2_Open : PySem.W.isFn K (.ref f16) = true)
    (e3_Open : PySem.W.findIn K (.ref C_Open) "__ne__" = some (some (.builtin "object.__ne__")))
    (e4_Open_Open : PySem.W.notFirst K C_Open (.ref C_Open) = true)
    (mk1_Forced : PySem.W.makesIn K C_Forced = true)
    (mk2_Forced : PySem.W.findIn K (.ref C_Forced) "__init__" = some (some (.ref f26)))
    (mk3_Forced : PySem.W.isFn K (.ref f26) = true)
    (mk4_Forced : PySem.W.keepIn K (.ref C_Forced) = true)
    (p1_Forced : PySem.W.plainGet K C_Forced Str.empty = true)
    (p2_Forced : PySem.W.hasDictIn K C_Forced = true)
    (p3_Forced : PySem.W.plainOver K C_Forced = true)
    (p4_Forced : PySem.W.findIn K (.ref C_Forced) "__setattr__" = some (some (.builtin "object.__setattr__")))
    (p5_Forced : PySem.W.plainGet K C_Forced "__class__" = true)
    (p6_Forced : PySem.W.findIn K (.ref C_Forced) "__class__" = some (some (.builtin "object.__class__")))
    (p7_Forced : PySem.W.mroIn K C_Forced (.type "object") = some true)
    {odN_Forced : Option Addr} {cdN_Forced : ClassData} {slN_Forced : Array (Option Value)} {tkN_Forced : Tok}
    (p8_Forced : PySem.W.readsIn K C_Forced (.type "type") = true)
    (p9_Forced : PySem.W.findCls K (.ref C_Forced) (.type "type") "__name__" = some (.get (.builtin "getset_descriptor.__get__") (.builtin "type.__name__") (.ref C_Forced) (.type "type")))
    (p10_Forced : K.lookup C_Forced = some ⟨.type "type", odN_Forced, .cls cdN_Forced, slN_Forced⟩)
    (p11_Forced : slN_Forced[2]? = some (some (.str "Forced" tkN_Forced)))
    (p12_Forced : NoAttr K C_Forced "word")
    (p13_Forced : NoAttr K C_Forced "parts")
    (p14_Forced : PySem.W.kitOne K (.ref C_Forced) (.ref C_Paper) = some true)
    (s1_Forced_Forced : PySem.W.ks_superIn K C_Forced C_Forced "__init__" = some (some (.ref f15)))
    (s2_Forced_Forced : PySem.W.typeIn K (.ref f15) = some (.type "function"))
    (s3_Forced_Forced : PySem.W.fnIn K f15 = true)
    (s4_Forced_Forced : PySem.W.mroIn K C_Forced (.ref C_Forced) = some true)
    (n_Forced_outcome : NoAttr K C_Forced "outcome")
    (n_Forced_numbers : NoAttr K C_Forced "numbers")
    (i_Forced_Forced : PySem.W.kitOne K (.ref C_Forced) (.ref C_Forced) = some true)
    (i_Forced_Open : PySem.W.kitOne K (.ref C_Forced) (.ref C_Open) = some false)
    (z_abs : PySem.W.nsIn K mainGlobals "abs" = some none)
    (z_all : PySem.W.nsIn K mainGlobals "all" = some none)
    (z_bool : PySem.W.nsIn K mainGlobals "bool" = some none)
    (z_enumerate : PySem.W.nsIn K mainGlobals "enumerate" = some none)
    (z_int : PySem.W.nsIn K mainGlobals "int" = some none)
    (z_isinstance : PySem.W.nsIn K mainGlobals "isinstance" = some none)
    (z_len : PySem.W.nsIn K mainGlobals "len" = some none)
    (z_list : PySem.W.nsIn K mainGlobals "list" = some none)
    (z_min : PySem.W.nsIn K mainGlobals "min" = some none)
    (z_range : PySem.W.nsIn K mainGlobals "range" = some none)
    (z_set : PySem.W.nsIn K mainGlobals "set" = some none)
    (z_sorted : PySem.W.nsIn K mainGlobals "sorted" = some none)
    (z_sum : PySem.W.nsIn K mainGlobals "sum" = some none)
    (z_tuple : PySem.W.nsIn K mainGlobals "tuple" = some none)
    {t_MOST_CASES : Tok} (c_MOST_CASES : PySem.W.nsIn K mainGlobals "MOST_CASES" = some (some (.int 16 t_MOST_CASES)))
    {t_MOST_PLACES : Tok} (c_MOST_PLACES : PySem.W.nsIn K mainGlobals "MOST_PLACES" = some (some (.int 6 t_MOST_PLACES))) :
    ∃ fd : FuncData, (∀ (s : Shared) (v : Value), BindsTo s fd ⟨[v], []⟩ [("script", v)]) ∧ ∀ base : Heap, K.In base → base.Ns mainGlobals mg → FnOk l.prog w K mg base CX0 9 fa fd ["script"] (sp_law K) := by
  have e := hfa.symm.trans (PySem.W.mg_of X G a47)
  cases e
  have F0 := fun_mk (st := s_is_integer) l0 c0 k0
  have b0 := F0.binds (ps := ["value"]) fun _ _ _ _ _ _ us hl => match us, hl with | [_], _ => rfl
  have F1 := fun_mk (st := s_is_within) l1 c1 k1
  have b1 := F1.binds (ps := ["value", "least", "most"]) fun _ _ _ _ _ _ us hl => match us, hl with | [_, _, _], _ => rfl
  have F2 := fun_mk (st := s_is_row) l2 c2 k2
  have b2 := F2.binds (ps := ["value"]) fun _ _ _ _ _ _ us hl => match us, hl with | [_], _ => rfl
  have F3 := fun_mk (st := s_are_bits) l3 c3 k3
  have b3 := F3.binds (ps := ["value"]) fun _ _ _ _ _ _ us hl => match us, hl with | [_], _ => rfl
  have F4 := fun_mk (st := s_all_rows) l4 c4 k4
  have b4 := F4.binds (ps := ["places"]) fun _ _ _ _ _ _ us hl => match us, hl with | [_], _ => rfl
  have F5 := fun_mk (st := s_cases_told) l5 c5 k5
  have b5 := F5.binds (ps := ["value", "places"]) fun _ _ _ _ _ _ us hl => match us, hl with | [_, _], _ => rfl
  have F6 := fun_mk (st := s_need_each_once) l6 c6 k6
  have b6 := F6.binds (ps := ["values"]) fun _ _ _ _ _ _ us hl => match us, hl with | [_], _ => rfl
  have F7 : FunD K "__init__" "Book.__init__" (defArgs s_Book_init) (defBody s_Book_init) (defScope s_Book_init) dv7 [] f7 _ := ⟨⟨_, _, _, _, _, _, _, _, _, _, rfl, l7, c7, .inr ⟨fun e => by subst e; cases v7; exact absurd (show 1 = 0 from nd7) (by decide), _, _, _, _, rfl, t7, u7, v7⟩, .inl rfl⟩, k7⟩
  obtain ⟨ds7, ev7, b7⟩ := F7.binds1 (ps := ["self", "places", "cases"]) 3 1 (fun e => by subst e; cases v7; exact absurd (show 1 = 0 from nd7) (by decide)) (by rw [v7.length, ← nd7]; rfl) (fun T kV doc pm an cdv ct us its hl hi => match us, hl, its, hi.trans (v7.length.trans nd7.symm) with | [_, _, _], _, [_], _ => ⟨_, rfl, rfl⟩)
  have ev7 : ds7 = [] := by have z : dv7.drop 1 = [] := List.drop_eq_nil_of_le (by rw [v7.length, ← nd7]; exact Nat.le_refl _); rw [z] at ev7; cases ev7; rfl
  rw [ev7] at b7
  have F8 := fun_mk (st := s_Book_len) l8 c8 k8
  have b8 := F8.binds (ps := ["self"]) fun _ _ _ _ _ _ us hl => match us, hl with | [_], _ => rfl
  have F9 := fun_mk (st := s_Book_eq) l9 c9 k9
  have b9 := F9.binds (ps := ["self", "other"]) fun _ _ _ _ _ _ us hl => match us, hl with | [_, _], _ => rfl
  have F10 := fun_mk (st := s_Book_with_case) l10 c10 k10
  have b10 := F10.binds (ps := ["self", "row", "outcome"]) fun _ _ _ _ _ _ us hl => match us, hl with | [_, _, _], _ => rfl
  have kb_Book_with_case_outcome_row := HIn.kb_mk1 (K := K) (fd := PySem.W.fnOf "with_case" "Book.with_case" (defArgs s_Book_with_case) (defBody s_Book_with_case) (defScope s_Book_with_case) .none kV10 dc10 pm10 an10 cd10 ct10) (ps := ["self", "row", "outcome"]) (ks := ["outcome", "row"]) (idx := [1, 0]) (by rfl) (fun u ws hl => match ws, hl with | [_, _], _ => rfl) HIn.perm1_rel
  have F11 := fun_mk (st := s_need_book) l11 c11 k11
  have b11 := F11.binds (ps := ["value", "part"]) fun _ _ _ _ _ _ us hl => match us, hl with | [_, _], _ => rfl
  have F12 := fun_mk (st := s_need_places) l12 c12 k12
  have b12 := F12.binds (ps := ["book", "row"]) fun _ _ _ _ _ _ us hl => match us, hl with | [_, _], _ => rfl
  have F13 := fun_mk (st := s_need_row_of) l13 c13 k13
  have b13 := F13.binds (ps := ["book", "row"]) fun _ _ _ _ _ _ us hl => match us, hl with | [_, _], _ => rfl
  have F14 := fun_mk (st := s_fixed) l14 c14 k14
  have b14 := F14.binds (ps := ["value"]) fun _ _ _ _ _ _ us hl => match us, hl with | [_], _ => rfl
  have F16 := fun_mk (st := s_Paper_eq) l16 c16 k16
  have b16 := F16.binds (ps := ["self", "other"]) fun _ _ _ _ _ _ us hl => match us, hl with | [_, _], _ => rfl
  have F17 := fun_mk (st := s_is_bits) l17 c17 k17
  have b17 := F17.binds (ps := ["value"]) fun _ _ _ _ _ _ us hl => match us, hl with | [_], _ => rfl
  have F18 := fun_mk (st := s_need_bits) l18 c18 k18
  have b18 := F18.binds (ps := ["value", "part"]) fun _ _ _ _ _ _ us hl => match us, hl with | [_, _], _ => rfl
  have F20 := fun_mk (st := s_Adder_outcome) l20 c20 k20
  have b20 := F20.binds (ps := ["self", "row"]) fun _ _ _ _ _ _ us hl => match us, hl with | [_, _], _ => rfl
  have F21 := fun_mk (st := s_is_adder) l21 c21 k21
  have b21 := F21.binds (ps := ["value"]) fun _ _ _ _ _ _ us hl => match us, hl with | [_], _ => rfl
  have F22 := fun_mk (st := s_need_adder) l22 c22 k22
  have b22 := F22.binds (ps := ["value"]) fun _ _ _ _ _ _ us hl => match us, hl with | [_], _ => rfl
  have F23 := fun_mk (st := s_added) l23 c23 k23
  have b23 := F23.binds (ps := ["adder", "row"]) fun _ _ _ _ _ _ us hl => match us, hl with | [_, _], _ => rfl
  have F28 := fun_mk (st := s_vector_of) l28 c28 k28
  have b28 := F28.binds (ps := ["row"]) fun _ _ _ _ _ _ us hl => match us, hl with | [_], _ => rfl
  have F29 := fun_mk (st := s_numbers_in) l29 c29 k29
  have b29 := F29.binds (ps := ["lot"]) fun _ _ _ _ _ _ us hl => match us, hl with | [_], _ => rfl
  have F30 := fun_mk (st := s_reduced) l30 c30 k30
  have b30 := F30.binds (ps := ["base", "vector"]) fun _ _ _ _ _ _ us hl => match us, hl with | [_, _], _ => rfl
  have F31 := fun_mk (st := s_wider) l31 c31 k31
  have b31 := F31.binds (ps := ["base", "left", "lot", "outcome"]) fun _ _ _ _ _ _ us hl => match us, hl with | [_, _, _, _], _ => rfl
  have F32 := fun_mk (st := s_base_of) l32 c32 k32
  have b32 := F32.binds (ps := ["book"]) fun _ _ _ _ _ _ us hl => match us, hl with | [_], _ => rfl
  have F33 := fun_mk (st := s_adder_by) l33 c33 k33
  have b33 := F33.binds (ps := ["base", "places"]) fun _ _ _ _ _ _ us hl => match us, hl with | [_, _], _ => rfl
  have F34 := fun_mk (st := s_possible_base) l34 c34 k34
  have b34 := F34.binds (ps := ["book"]) fun _ _ _ _ _ _ us hl => match us, hl with | [_], _ => rfl
  have F35 := fun_mk (st := s_quarrel) l35 c35 k35
  have b35 := F35.binds (ps := ["book"]) fun _ _ _ _ _ _ us hl => match us, hl with | [_], _ => rfl
  have F36 := fun_mk (st := s_word_of) l36 c36 k36
  have b36 := F36.binds (ps := ["book", "row"]) fun _ _ _ _ _ _ us hl => match us, hl with | [_, _], _ => rfl
  have F37 := fun_mk (st := s_all_adders) l37 c37 k37
  have b37 := F37.binds (ps := ["places"]) fun _ _ _ _ _ _ us hl => match us, hl with | [_], _ => rfl
  have F38 := fun_mk (st := s_wrong_at) l38 c38 k38
  have b38 := F38.binds (ps := ["adder", "book"]) fun _ _ _ _ _ _ us hl => match us, hl with | [_, _], _ => rfl
  have F39 := fun_mk (st := s_fitting) l39 c39 k39
  have b39 := F39.binds (ps := ["book"]) fun _ _ _ _ _ _ us hl => match us, hl with | [_], _ => rfl
  have F40 := fun_mk (st := s__law_well) l40 c40 k40
  have b40 := F40.binds (ps := ["script"]) fun _ _ _ _ _ _ us hl => match us, hl with | [_], _ => rfl
  have F41 := fun_mk (st := s__law_sip) l41 c41 k41
  have b41 := F41.binds (ps := ["well", "many"]) fun _ _ _ _ _ _ us hl => match us, hl with | [_, _], _ => rfl
  have F42 := fun_mk (st := s__law_pick) l42 c42 k42
  have b42 := F42.binds (ps := ["well", "some"]) fun _ _ _ _ _ _ us hl => match us, hl with | [_, _], _ => rfl
  have F43 := fun_mk (st := s__law_rows) l43 c43 k43
  have b43 := F43.binds (ps := ["places"]) fun _ _ _ _ _ _ us hl => match us, hl with | [_], _ => rfl
  have F44 := fun_mk (st := s__law_adders) l44 c44 k44
  have b44 := F44.binds (ps := ["places"]) fun _ _ _ _ _ _ us hl => match us, hl with | [_], _ => rfl
  have F45 := fun_mk (st := s__law_gives) l45 c45 k45
  have b45 := F45.binds (ps := ["adder", "row"]) fun _ _ _ _ _ _ us hl => match us, hl with | [_, _], _ => rfl
  have F46 := fun_mk (st := s__law_fits) l46 c46 k46
  have b46 := F46.binds (ps := ["places", "cases"]) fun _ _ _ _ _ _ us hl => match us, hl with | [_, _], _ => rfl
  have F47 := fun_mk (st := s_law) l47 c47 k47
  have b47 := F47.binds (ps := ["script"]) fun _ _ _ _ _ _ us hl => match us, hl with | [_], _ => rfl
  let T : Tx l.prog K mg := {
    C_Book := C_Book
    g_Book := PySem.W.mg_of X G a_Book
    C_Paper := C_Paper
    g_Paper := PySem.W.mg_of X G a_Paper
    C_Adder := C_Adder
    g_Adder := PySem.W.mg_of X G a_Adder
    C_Fits := C_Fits
    g_Fits := PySem.W.mg_of X G a_Fits
    C_Denial := C_Denial
    g_Denial := PySem.W.mg_of X G a_Denial
    C_Quarrel := C_Quarrel
    g_Quarrel := PySem.W.mg_of X G a_Quarrel
    C_Forced := C_Forced
    g_Forced := PySem.W.mg_of X G a_Forced
    C_Open := C_Open
    g_Open := PySem.W.mg_of X G a_Open
    f_is_integer := _
    fd_is_integer := _
    F_is_integer := F0
    b_is_integer := b0
    g_is_integer := PySem.W.mg_of X G a0
    f_is_within := _
    fd_is_within := _
    F_is_within := F1
    b_is_within := b1
    g_is_within := PySem.W.mg_of X G a1
    f_is_row := _
    fd_is_row := _
    F_is_row := F2
    b_is_row := b2
    g_is_row := PySem.W.mg_of X G a2
    f_are_bits := _
    fd_are_bits := _
    F_are_bits := F3
    b_are_bits := b3
    g_are_bits := PySem.W.mg_of X G a3
    f_all_rows := _
    fd_all_rows := _
    F_all_rows := F4
    b_all_rows := b4
    g_all_rows := PySem.W.mg_of X G a4
    f_cases_told := _
    fd_cases_told := _
    F_cases_told := F5
    b_cases_told := b5
    g_cases_told := PySem.W.mg_of X G a5
    f_need_each_once := _
    fd_need_each_once := _
    F_need_each_once := F6
    b_need_each_once := b6
    g_need_each_once := PySem.W.mg_of X G a6
    f_Book_init := _
    fd_Book_init := _
    dv_Book_init := _
    F_Book_init := F7
    b_Book_init := b7
    f_Book_len := _
    fd_Book_len := _
    F_Book_len := F8
    b_Book_len := b8
    f_Book_eq := _
    fd_Book_eq := _
    F_Book_eq := F9
    b_Book_eq := b9
    f_Book_with_case := _
    fd_Book_with_case := _
    F_Book_with_case := F10
    b_Book_with_case := b10
    kb_Book_with_case_outcome_row := kb_Book_with_case_outcome_row
    f_need_book := _
    fd_need_book := _
    F_need_book := F11
    b_need_book := b11
    g_need_book := PySem.W.mg_of X G a11
    f_need_places := _
    fd_need_places := _
    F_need_places := F12
    b_need_places := b12
    g_need_places := PySem.W.mg_of X G a12
    f_need_row_of := _
    fd_need_row_of := _
    F_need_row_of := F13
    b_need_row_of := b13
    g_need_row_of := PySem.W.mg_of X G a13
    f_fixed := _
    fd_fixed := _
    F_fixed := F14
    b_fixed := b14
    g_fixed := PySem.W.mg_of X G a14
    f_Paper_init := f15
    SF_Paper_init := ⟨⟨oc15, od15, .none, kV15, dc15, pm15, an15, cd15, ct15, sl15, l15, c15, StX.bind_star2 (B := fun xs => bindArgs (PySem.W.fnOf "__init__" "Paper.__init__" (defArgs s_Paper_init) (defBody s_Paper_init) (defScope s_Paper_init) .none kV15 dc15 pm15 an15 cd15 ct15) ⟨xs, []⟩) (fun _ _ => rfl) (fun _ _ _ _ => rfl)⟩⟩
    f_Paper_eq := _
    fd_Paper_eq := _
    F_Paper_eq := F16
    b_Paper_eq := b16
    f_is_bits := _
    fd_is_bits := _
    F_is_bits := F17
    b_is_bits := b17
    g_is_bits := PySem.W.mg_of X G a17
    f_need_bits := _
    fd_need_bits := _
    F_need_bits := F18
    b_need_bits := b18
    g_need_bits := PySem.W.mg_of X G a18
    f_Adder_init := f19
    cc_Adder_init := cc19
    ca_Adder_init := ca19
    SD_Adder_init := ⟨⟨oc19, od19, .none, kV19, dc19, pm19, ct19, an19, sl19, l19, fun us hl => match us, hl with | [_, _, _], _ => (by kernel_rfl), fun us hl => match us, hl with | [_, _, _], _ => (by kernel_rfl)⟩, c19, rfl, ⟨xcl19, xcd19, xvs19, xcs19, file19, tf19, x19, u19, v19⟩, ⟨ycl19, ycd19, ycs19, y19⟩, ⟨_, w19⟩, PySem.W.mg_none_of X G z_super, t_super⟩
    f_Adder_outcome := _
    fd_Adder_outcome := _
    F_Adder_outcome := F20
    b_Adder_outcome := b20
    f_is_adder := _
    fd_is_adder := _
    F_is_adder := F21
    b_is_adder := b21
    g_is_adder := PySem.W.mg_of X G a21
    f_need_adder := _
    fd_need_adder := _
    F_need_adder := F22
    b_need_adder := b22
    g_need_adder := PySem.W.mg_of X G a22
    f_added := _
    fd_added := _
    F_added := F23
    b_added := b23
    g_added := PySem.W.mg_of X G a23
    f_Fits_init := f24
    cc_Fits_init := cc24
    ca_Fits_init := ca24
    SD_Fits_init := ⟨⟨oc24, od24, .none, kV24, dc24, pm24, ct24, an24, sl24, l24, fun us hl => match us, hl with | [_, _], _ => (by kernel_rfl), fun us hl => match us, hl with | [_, _], _ => (by kernel_rfl)⟩, c24, rfl, ⟨xcl24, xcd24, xvs24, xcs24, file24, tf24, x24, u24, v24⟩, ⟨ycl24, ycd24, ycs24, y24⟩, ⟨_, w24⟩, PySem.W.mg_none_of X G z_super, t_super⟩
    f_Quarrel_init := f25
    cc_Quarrel_init := cc25
    ca_Quarrel_init := ca25
    SD_Quarrel_init := ⟨⟨oc25, od25, .none, kV25, dc25, pm25, ct25, an25, sl25, l25, fun us hl => match us, hl with | [_, _], _ => (by kernel_rfl), fun us hl => match us, hl with | [_, _], _ => (by kernel_rfl)⟩, c25, rfl, ⟨xcl25, xcd25, xvs25, xcs25, file25, tf25, x25, u25, v25⟩, ⟨ycl25, ycd25, ycs25, y25⟩, ⟨_, w25⟩, PySem.W.mg_none_of X G z_super, t_super⟩
    f_Forced_init := f26
    cc_Forced_init := cc26
    ca_Forced_init := ca26
    SD_Forced_init := ⟨⟨oc26, od26, .none, kV26, dc26, pm26, ct26, an26, sl26, l26, fun us hl => match us, hl with | [_, _, _], _ => (by kernel_rfl), fun us hl => match us, hl with | [_, _, _], _ => (by kernel_rfl)⟩, c26, rfl, ⟨xcl26, xcd26, xvs26, xcs26, file26, tf26, x26, u26, v26⟩, ⟨ycl26, ycd26, ycs26, y26⟩, ⟨_, w26⟩, PySem.W.mg_none_of X G z_super, t_super⟩
    f_Open_init := f27
    cc_Open_init := cc27
    ca_Open_init := ca27
    SD_Open_init := ⟨⟨oc27, od27, .none, kV27, dc27, pm27, ct27, an27, sl27, l27, fun us hl => match us, hl with | [_, _, _], _ => (by kernel_rfl), fun us hl => match us, hl with | [_, _, _], _ => (by kernel_rfl)⟩, c27, rfl, ⟨xcl27, xcd27, xvs27, xcs27, file27, tf27, x27, u27, v27⟩, ⟨ycl27, ycd27, ycs27, y27⟩, ⟨_, w27⟩, PySem.W.mg_none_of X G z_super, t_super⟩
    f_vector_of := _
    fd_vector_of := _
    F_vector_of := F28
    b_vector_of := b28
    g_vector_of := PySem.W.mg_of X G a28
    f_numbers_in := _
    fd_numbers_in := _
    F_numbers_in := F29
    b_numbers_in := b29
    g_numbers_in := PySem.W.mg_of X G a29
    f_reduced := _
    fd_reduced := _
    F_reduced := F30
    b_reduced := b30
    g_reduced := PySem.W.mg_of X G a30
    f_wider := _
    fd_wider := _
    F_wider := F31
    b_wider := b31
    g_wider := PySem.W.mg_of X G a31
    f_base_of := _
    fd_base_of := _
    F_base_of := F32
    b_base_of := b32
    g_base_of := PySem.W.mg_of X G a32
    f_adder_by := _
    fd_adder_by := _
    F_adder_by := F33
    b_adder_by := b33
    g_adder_by := PySem.W.mg_of X G a33
    f_possible_base := _
    fd_possible_base := _
    F_possible_base := F34
    b_possible_base := b34
    g_possible_base := PySem.W.mg_of X G a34
    f_quarrel := _
    fd_quarrel := _
    F_quarrel := F35
    b_quarrel := b35
    g_quarrel := PySem.W.mg_of X G a35
    f_word_of := _
    fd_word_of := _
    F_word_of := F36
    b_word_of := b36
    g_word_of := PySem.W.mg_of X G a36
    f_all_adders := _
    fd_all_adders := _
    F_all_adders := F37
    b_all_adders := b37
    g_all_adders := PySem.W.mg_of X G a37
    f_wrong_at := _
    fd_wrong_at := _
    F_wrong_at := F38
    b_wrong_at := b38
    g_wrong_at := PySem.W.mg_of X G a38
    f_fitting := _
    fd_fitting := _
    F_fitting := F39
    b_fitting := b39
    g_fitting := PySem.W.mg_of X G a39
    f__law_well := _
    fd__law_well := _
    F__law_well := F40
    b__law_well := b40
    g__law_well := PySem.W.mg_of X G a40
    f__law_sip := _
    fd__law_sip := _
    F__law_sip := F41
    b__law_sip := b41
    g__law_sip := PySem.W.mg_of X G a41
    f__law_pick := _
    fd__law_pick := _
    F__law_pick := F42
    b__law_pick := b42
    g__law_pick := PySem.W.mg_of X G a42
    f__law_rows := _
    fd__law_rows := _
    F__law_rows := F43
    b__law_rows := b43
    g__law_rows := PySem.W.mg_of X G a43
    f__law_adders := _
    fd__law_adders := _
    F__law_adders := F44
    b__law_adders := b44
    g__law_adders := PySem.W.mg_of X G a44
    f__law_gives := _
    fd__law_gives := _
    F__law_gives := F45
    b__law_gives := b45
    g__law_gives := PySem.W.mg_of X G a45
    f__law_fits := _
    fd__law_fits := _
    F__law_fits := F46
    b__law_fits := b46
    g__law_fits := PySem.W.mg_of X G a46
    f_law := _
    fd_law := _
    F_law := F47
    b_law := b47
    g_law := PySem.W.mg_of X G a47
    mk_Book := ⟨mk1_Book, mk2_Book, mk3_Book, mk4_Book⟩
    me_Book_with_case := ⟨m1_Book_with_case, m2_Book_with_case, m3_Book_with_case⟩
    me_Book___len__ := ⟨m1_Book___len__, m2_Book___len__, m3_Book___len__⟩
    pb_Book := ⟨⟨p1_Book, p2_Book, p3_Book, p4_Book⟩, ⟨p5_Book, p2_Book, p6_Book, oG, oT, p7_Book⟩, ⟨p8_Book, p9_Book, ⟨_, _, _, _, p10_Book, p11_Book⟩⟩⟩
    na_Book_places := n_Book_places
    na_Book_cases := n_Book_cases
    na_Book_rows := n_Book_rows
    na_Book_outcomes := n_Book_outcomes
    is_Book_Book := i_Book_Book
    eq_Book_Book := ⟨e1_Book, e2_Book, e4_Book_Book, e3_Book, p7_Book⟩
    mk_Adder := ⟨mk1_Adder, mk2_Adder, mk3_Adder, mk4_Adder⟩
    me_Adder_outcome := ⟨m1_Adder_outcome, m2_Adder_outcome, m3_Adder_outcome⟩
    pc_Adder := ⟨⟨p1_Adder, p2_Adder, p3_Adder, p4_Adder⟩, ⟨p5_Adder, p2_Adder, p6_Adder, oG, oT, p7_Adder⟩, ⟨p8_Adder, p9_Adder, ⟨_, _, _, _, p10_Adder, p11_Adder⟩⟩, p12_Adder, p13_Adder, p14_Adder⟩
    su_Adder_Adder := ⟨s1_Adder_Adder, s2_Adder_Adder, s3_Adder_Adder, s4_Adder_Adder, oS⟩
    na_Adder_places := n_Adder_places
    na_Adder_constant := n_Adder_constant
    is_Adder_Adder := i_Adder_Adder
    io_Adder_list := io_Adder_list
    io_Adder_tuple := io_Adder_tuple
    eq_Adder_Adder := ⟨e1_Adder, e2_Adder, e4_Adder_Adder, e3_Adder, p7_Adder⟩
    mk_Quarrel := ⟨mk1_Quarrel, mk2_Quarrel, mk3_Quarrel, mk4_Quarrel⟩
    pc_Quarrel := ⟨⟨p1_Quarrel, p2_Quarrel, p3_Quarrel, p4_Quarrel⟩, ⟨p5_Quarrel, p2_Quarrel, p6_Quarrel, oG, oT, p7_Quarrel⟩, ⟨p8_Quarrel, p9_Quarrel, ⟨_, _, _, _, p10_Quarrel, p11_Quarrel⟩⟩, p12_Quarrel, p13_Quarrel, p14_Quarrel⟩
    su_Quarrel_Quarrel := ⟨s1_Quarrel_Quarrel, s2_Quarrel_Quarrel, s3_Quarrel_Quarrel, s4_Quarrel_Quarrel, oS⟩
    na_Quarrel_numbers := n_Quarrel_numbers
    is_Quarrel_Quarrel := i_Quarrel_Quarrel
    mk_Fits := ⟨mk1_Fits, mk2_Fits, mk3_Fits, mk4_Fits⟩
    pc_Fits := ⟨⟨p1_Fits, p2_Fits, p3_Fits, p4_Fits⟩, ⟨p5_Fits, p2_Fits, p6_Fits, oG, oT, p7_Fits⟩, ⟨p8_Fits, p9_Fits, ⟨_, _, _, _, p10_Fits, p11_Fits⟩⟩, p12_Fits, p13_Fits, p14_Fits⟩
    su_Fits_Fits := ⟨s1_Fits_Fits, s2_Fits_Fits, s3_Fits_Fits, s4_Fits_Fits, oS⟩
    na_Fits_adder := n_Fits_adder
    mk_Open := ⟨mk1_Open, mk2_Open, mk3_Open, mk4_Open⟩
    pc_Open := ⟨⟨p1_Open, p2_Open, p3_Open, p4_Open⟩, ⟨p5_Open, p2_Open, p6_Open, oG, oT, p7_Open⟩, ⟨p8_Open, p9_Open, ⟨_, _, _, _, p10_Open, p11_Open⟩⟩, p12_Open, p13_Open, p14_Open⟩
    su_Open_Open := ⟨s1_Open_Open, s2_Open_Open, s3_Open_Open, s4_Open_Open, oS⟩
    na_Open_one := n_Open_one
    na_Open_other := n_Open_other
    is_Open_Forced := i_Open_Forced
    is_Open_Open := i_Open_Open
    eq_Open_Open := ⟨e1_Open, e2_Open, e4_Open_Open, e3_Open, p7_Open⟩
    mk_Forced := ⟨mk1_Forced, mk2_Forced, mk3_Forced, mk4_Forced⟩
    pc_Forced := ⟨⟨p1_Forced, p2_Forced, p3_Forced, p4_Forced⟩, ⟨p5_Forced, p2_Forced, p6_Forced, oG, oT, p7_Forced⟩, ⟨p8_Forced, p9_Forced, ⟨_, _, _, _, p10_Forced, p11_Forced⟩⟩, p12_Forced, p13_Forced, p14_Forced⟩
    su_Forced_Forced := ⟨s1_Forced_Forced, s2_Forced_Forced, s3_Forced_Forced, s4_Forced_Forced, oS⟩
    na_Forced_outcome := n_Forced_outcome
    na_Forced_numbers := n_Forced_numbers
    is_Forced_Forced := i_Forced_Forced
    is_Forced_Open := i_Forced_Open
    z_abs := PySem.W.mg_none_of X G z_abs
    z_all := PySem.W.mg_none_of X G z_all
    z_bool := PySem.W.mg_none_of X G z_bool
    z_enumerate := PySem.W.mg_none_of X G z_enumerate
    z_int := PySem.W.mg_none_of X G z_int
    z_isinstance := PySem.W.mg_none_of X G z_isinstance
    z_len := PySem.W.mg_none_of X G z_len
    z_list := PySem.W.mg_none_of X G z_list
    z_min := PySem.W.mg_none_of X G z_min
    z_range := PySem.W.mg_none_of X G z_range
    z_set := PySem.W.mg_none_of X G z_set
    z_sorted := PySem.W.mg_none_of X G z_sorted
    z_sum := PySem.W.mg_none_of X G z_sum
    z_tuple := PySem.W.mg_none_of X G z_tuple
    t_MOST_CASES := _
    c_MOST_CASES := PySem.W.mg_of X G c_MOST_CASES
    t_MOST_PLACES := _
    c_MOST_PLACES := PySem.W.mg_of X G c_MOST_PLACES }
  exact ⟨PySem.W.fnOf "law" "law" (defArgs s_law) (defBody s_law) (defScope s_law) .none kV47 dc47 pm47 an47 cd47 ct47, fun s v => .of_eq rfl, fun base _ _ => ok_law T⟩
theorem facts {w : World} {K : PySem.W.Frag} {h : Heap} {mg : Str → Option Value} {fa : Addr} (X : K.In h) (G : h.Ns mainGlobals mg) (hfa : mg "law" = some (.ref fa)) (c : HHk.Says fs fn K) :
    ∃ fd : FuncData, (∀ (s : Shared) (v : Value), BindsTo s fd ⟨[v], []⟩ [("script", v)]) ∧ ∀ base : Heap, K.In base → base.Ns mainGlobals mg → FnOk PySem.Challenge.rw_fourthlike_k60_two_adders_that_part.prog w K mg base CX0 9 fa fd ["script"] (sp_law K) := by
  obtain ⟨_, _, _, _, _, _, _, _, _, l0, c0⟩ := HHk.plain (c.at_ 0) (c.fact 9)
  obtain ⟨_, _, _, _, _, _, _, _, _, l1, c1⟩ := HHk.plain (c.at_ 1) (c.fact 12)
  obtain ⟨_, _, _, _, _, _, _, _, _, l2, c2⟩ := HHk.plain (c.at_ 2) (c.fact 15)
  obtain ⟨_, _, _, _, _, _, _, _, _, l3, c3⟩ := HHk.plain (c.at_ 3) (c.fact 18)
  obtain ⟨_, _, _, _, _, _, _, _, _, l4, c4⟩ := HHk.plain (c.at_ 4) (c.fact 21)
  obtain ⟨_, _, _, _, _, _, _, _, _, l5, c5⟩ := HHk.plain (c.at_ 5) (c.fact 24)
  obtain ⟨_, _, _, _, _, _, _, _, _, l6, c6⟩ := HHk.plain (c.at_ 6) (c.fact 27)
  obtain ⟨_, _, _, _, _, _, _, _, _, _, _, _, _, l7, c7, t7, u7⟩ := HHk.dfl (c.at_ 7) (c.fact 30) (c.fact 31)
  obtain ⟨_, _, _, _, _, _, _, _, _, l8, c8⟩ := HHk.plain (c.at_ 8) (c.fact 34)
  obtain ⟨_, _, _, _, _, _, _, _, _, l9, c9⟩ := HHk.plain (c.at_ 9) (c.fact 37)
  obtain ⟨_, _, _, _, _, _, _, _, _, l10, c10⟩ := HHk.plain (c.at_ 10) (c.fact 40)
  obtain ⟨_, _, _, _, _, _, _, _, _, l11, c11⟩ := HHk.plain (c.at_ 11) (c.fact 43)
  obtain ⟨_, _, _, _, _, _, _, _, _, l12, c12⟩ := HHk.plain (c.at_ 12) (c.fact 46)
  obtain ⟨_, _, _, _, _, _, _, _, _, l13, c13⟩ := HHk.plain (c.at_ 13) (c.fact 49)
  obtain ⟨_, _, _, _, _, _, _, _, _, l14, c14⟩ := HHk.plain (c.at_ 14) (c.fact 52)
  obtain ⟨_, _, _, _, _, _, _, _, _, l15, c15⟩ := HHk.plain (c.at_ 15) (c.fact 55)
  obtain ⟨_, _, _, _, _, _, _, _, _, l16, c16⟩ := HHk.plain (c.at_ 16) (c.fact 57)
  obtain ⟨_, _, _, _, _, _, _, _, _, l17, c17⟩ := HHk.plain (c.at_ 17) (c.fact 60)
  obtain ⟨_, _, _, _, _, _, _, _, _, l18, c18⟩ := HHk.plain (c.at_ 18) (c.fact 63)
  obtain ⟨_, _, _, _, _, _, _, _, _, _, _, _, _, _, _, _, _, _, _, _, l19, c19, x19, u19, v19, y19, w19⟩ := HHk.sup (c.at_ 19) (c.fact 66)
  obtain ⟨_, _, _, _, _, _, _, _, _, l20, c20⟩ := HHk.plain (c.at_ 20) (c.fact 69)
  obtain ⟨_, _, _, _, _, _, _, _, _, l21, c21⟩ := HHk.plain (c.at_ 21) (c.fact 72)
  obtain ⟨_, _, _, _, _, _, _, _, _, l22, c22⟩ := HHk.plain (c.at_ 22) (c.fact 75)
  obtain ⟨_, _, _, _, _, _, _, _, _, l23, c23⟩ := HHk.plain (c.at_ 23) (c.fact 78)
  obtain ⟨_, _, _, _, _, _, _, _, _, _, _, _, _, _, _, _, _, _, _, _, l24, c24, x24, u24, v24, y24, w24⟩ := HHk.sup (c.at_ 24) (c.fact 81)
  obtain ⟨_, _, _, _, _, _, _, _, _, _, _, _, _, _, _, _, _, _, _, _, l25, c25, x25, u25, v25, y25, w25⟩ := HHk.sup (c.at_ 25) (c.fact 83)
  obtain ⟨_, _, _, _, _, _, _, _, _, _, _, _, _, _, _, _, _, _, _, _, l26, c26, x26, u26, v26, y26, w26⟩ := HHk.sup (c.at_ 26) (c.fact 85)
  obtain ⟨_, _, _, _, _, _, _, _, _, _, _, _, _, _, _, _, _, _, _, _, l27, c27, x27, u27, v27, y27, w27⟩ := HHk.sup (c.at_ 27) (c.fact 87)
  obtain ⟨_, _, _, _, _, _, _, _, _, l28, c28⟩ := HHk.plain (c.at_ 28) (c.fact 89)
  obtain ⟨_, _, _, _, _, _, _, _, _, l29, c29⟩ := HHk.plain (c.at_ 29) (c.fact 92)
  obtain ⟨_, _, _, _, _, _, _, _, _, l30, c30⟩ := HHk.plain (c.at_ 30) (c.fact 95)
  obtain ⟨_, _, _, _, _, _, _, _, _, l31, c31⟩ := HHk.plain (c.at_ 31) (c.fact 98)
  obtain ⟨_, _, _, _, _, _, _, _, _, l32, c32⟩ := HHk.plain (c.at_ 32) (c.fact 101)
  obtain ⟨_, _, _, _, _, _, _, _, _, l33, c33⟩ := HHk.plain (c.at_ 33) (c.fact 104)
  obtain ⟨_, _, _, _, _, _, _, _, _, l34, c34⟩ := HHk.plain (c.at_ 34) (c.fact 107)
  obtain ⟨_, _, _, _, _, _, _, _, _, l35, c35⟩ := HHk.plain (c.at_ 35) (c.fact 110)
  obtain ⟨_, _, _, _, _, _, _, _, _, l36, c36⟩ := HHk.plain (c.at_ 36) (c.fact 113)
  obtain ⟨_, _, _, _, _, _, _, _, _, l37, c37⟩ := HHk.plain (c.at_ 37) (c.fact 116)
  obtain ⟨_, _, _, _, _, _, _, _, _, l38, c38⟩ := HHk.plain (c.at_ 38) (c.fact 119)
  obtain ⟨_, _, _, _, _, _, _, _, _, l39, c39⟩ := HHk.plain (c.at_ 39) (c.fact 122)
  obtain ⟨_, _, _, _, _, _, _, _, _, l40, c40⟩ := HHk.plain (c.at_ 40) (c.fact 125)
  obtain ⟨_, _, _, _, _, _, _, _, _, l41, c41⟩ := HHk.plain (c.at_ 41) (c.fact 128)
  obtain ⟨_, _, _, _, _, _, _, _, _, l42, c42⟩ := HHk.plain (c.at_ 42) (c.fact 131)
  obtain ⟨_, _, _, _, _, _, _, _, _, l43, c43⟩ := HHk.plain (c.at_ 43) (c.fact 134)
  obtain ⟨_, _, _, _, _, _, _, _, _, l44, c44⟩ := HHk.plain (c.at_ 44) (c.fact 137)
  obtain ⟨_, _, _, _, _, _, _, _, _, l45, c45⟩ := HHk.plain (c.at_ 45) (c.fact 140)
  obtain ⟨_, _, _, _, _, _, _, _, _, l46, c46⟩ := HHk.plain (c.at_ 46) (c.fact 143)
  obtain ⟨_, _, _, _, _, _, _, _, _, l47, c47⟩ := HHk.plain (c.at_ 47) (c.fact 146)
  obtain ⟨_, _, _, _, p10_Book, p11_Book⟩ := HHk.cls (c.fact 164)
  obtain ⟨_, _, _, _, p10_Adder, p11_Adder⟩ := HHk.cls (c.fact 193)
  obtain ⟨_, _, _, _, p10_Quarrel, p11_Quarrel⟩ := HHk.cls (c.fact 226)
  obtain ⟨_, _, _, _, p10_Fits, p11_Fits⟩ := HHk.cls (c.fact 249)
  obtain ⟨_, _, _, _, p10_Open, p11_Open⟩ := HHk.cls (c.fact 271)
  obtain ⟨_, _, _, _, p10_Forced, p11_Forced⟩ := HHk.cls (c.fact 300)
  obtain ⟨_, c_MOST_CASES⟩ := HHk.intG (c.fact 326)
  obtain ⟨_, c_MOST_PLACES⟩ := HHk.intG (c.fact 327)
  exact all_mk (l := PySem.Challenge.rw_fourthlike_k60_two_adders_that_part) (w := w) X G hfa (of_decide_eq_true (c.fact 0)) (of_decide_eq_true (c.fact 1)) (of_decide_eq_true (c.fact 2)) (of_decide_eq_true (c.fact 3)) (of_decide_eq_true (c.fact 4)) (of_decide_eq_true (c.fact 5)) (of_decide_eq_true (c.fact 6)) (of_decide_eq_true (c.fact 7)) (of_decide_eq_true (c.fact 8)) l0 c0 (c.fact 10) (of_decide_eq_true (c.fact 11)) l1 c1 (c.fact 13) (of_decide_eq_true (c.fact 14)) l2 c2 (c.fact 16) (of_decide_eq_true (c.fact 17)) l3 c3 (c.fact 19) (of_decide_eq_true (c.fact 20)) l4 c4 (c.fact 22) (of_decide_eq_true (c.fact 23)) l5 c5 (c.fact 25) (of_decide_eq_true (c.fact 26)) l6 c6 (c.fact 28) (of_decide_eq_true (c.fact 29)) l7 c7 (c.fact 32) t7 u7 (.cons (show L2.RelV (L2.V.ref _) _ from rfl) .nil) rfl (of_decide_eq_true (c.fact 33)) l8 c8 (c.fact 35) (of_decide_eq_true (c.fact 36)) l9 c9 (c.fact 38) (of_decide_eq_true (c.fact 39)) l10 c10 (c.fact 41) (of_decide_eq_true (c.fact 42)) l11 c11 (c.fact 44) (of_decide_eq_true (c.fact 45)) l12 c12 (c.fact 47) (of_decide_eq_true (c.fact 48)) l13 c13 (c.fact 50) (of_decide_eq_true (c.fact 51)) l14 c14 (c.fact 53) (of_decide_eq_true (c.fact 54)) l15 c15 (of_decide_eq_true (c.fact 56)) l16 c16 (c.fact 58) (of_decide_eq_true (c.fact 59)) l17 c17 (c.fact 61) (of_decide_eq_true (c.fact 62)) l18 c18 (c.fact 64) (of_decide_eq_true (c.fact 65)) l19 c19 x19 u19 v19 y19 w19 (of_decide_eq_true (c.fact 67)) (by first | rfl | decide +kernel) (of_decide_eq_true (c.fact 68)) l20 c20 (c.fact 70) (of_decide_eq_true (c.fact 71)) l21 c21 (c.fact 73) (of_decide_eq_true (c.fact 74)) l22 c22 (c.fact 76) (of_decide_eq_true (c.fact 77)) l23 c23 (c.fact 79) (of_decide_eq_true (c.fact 80)) l24 c24 x24 u24 v24 y24 w24 (of_decide_eq_true (c.fact 82)) l25 c25 x25 u25 v25 y25 w25 (of_decide_eq_true (c.fact 84)) l26 c26 x26 u26 v26 y26 w26 (of_decide_eq_true (c.fact 86)) l27 c27 x27 u27 v27 y27 w27 (of_decide_eq_true (c.fact 88)) l28 c28 (c.fact 90) (of_decide_eq_true (c.fact 91)) l29 c29 (c.fact 93) (of_decide_eq_true (c.fact 94)) l30 c30 (c.fact 96) (of_decide_eq_true (c.fact 97)) l31 c31 (c.fact 99) (of_decide_eq_true (c.fact 100)) l32 c32 (c.fact 102) (of_decide_eq_true (c.fact 103)) l33 c33 (c.fact 105) (of_decide_eq_true (c.fact 106)) l34 c34 (c.fact 108) (of_decide_eq_true (c.fact 109)) l35 c35 (c.fact 111) (of_decide_eq_true (c.fact 112)) l36 c36 (c.fact 114) (of_decide_eq_true (c.fact 115)) l37 c37 (c.fact 117) (of_decide_eq_true (c.fact 118)) l38 c38 (c.fact 120) (of_decide_eq_true (c.fact 121)) l39 c39 (c.fact 123) (of_decide_eq_true (c.fact 124)) l40 c40 (c.fact 126) (of_decide_eq_true (c.fact 127)) l41 c41 (c.fact 129) (of_decide_eq_true (c.fact 130)) l42 c42 (c.fact 132) (of_decide_eq_true (c.fact 133)) l43 c43 (c.fact 135) (of_decide_eq_true (c.fact 136)) l44 c44 (c.fact 138) (of_decide_eq_true (c.fact 139)) l45 c45 (c.fact 141) (of_decide_eq_true (c.fact 142)) l46 c46 (c.fact 144) (of_decide_eq_true (c.fact 145)) l47 c47 (c.fact 147) (of_decide_eq_true (c.fact 148)) (of_decide_eq_true (c.fact 149)) (of_decide_eq_true (c.fact 150)) (c.fact 151) (of_decide_eq_true (c.fact 152)) (c.fact 153) (c.fact 154) (c.fact 155) (c.fact 156) (c.fact 157) (of_decide_eq_true (c.fact 158)) (c.fact 159) (of_decide_eq_true (c.fact 160)) (of_decide_eq_true (c.fact 161)) (c.fact 162) (HHk.getO_ok (c.fact 163)) p10_Book p11_Book (of_decide_eq_true (c.fact 165)) (c.fact 166) (c.fact 167) (of_decide_eq_true (c.fact 168)) (c.fact 169) (c.fact 170) (He.eqO_ok (c.fact 171)) (He.eqO_ok (c.fact 172)) (He.eqO_ok (c.fact 173)) (He.eqO_ok (c.fact 174)) (of_decide_eq_true (c.fact 175)) (of_decide_eq_true (c.fact 176)) (c.fact 177) (of_decide_eq_true (c.fact 178)) (c.fact 179) (c.fact 180) (of_decide_eq_true (c.fact 181)) (c.fact 182) (c.fact 183) (c.fact 184) (c.fact 185) (c.fact 186) (of_decide_eq_true (c.fact 187)) (c.fact 188) (of_decide_eq_true (c.fact 189)) (of_decide_eq_true (c.fact 190)) (c.fact 191) (HHk.getO_ok (c.fact 192)) p10_Adder p11_Adder (of_decide_eq_true (c.fact 194)) (c.fact 195) (c.fact 196) (He.eqO_ok (c.fact 197)) (He.eqO_ok (c.fact 198)) (of_decide_eq_true (c.fact 199)) (of_decide_eq_true (c.fact 200)) (of_decide_eq_true (c.fact 201)) (c.fact 202) (of_decide_eq_true (c.fact 203)) (He.eqO_ok (c.fact 204)) (He.eqO_ok (c.fact 205)) (of_decide_eq_true (c.fact 206)) (of_decide_eq_true (c.fact 207)) (of_decide_eq_true (c.fact 208)) (of_decide_eq_true (c.fact 209)) (c.fact 210) (of_decide_eq_true (c.fact 211)) (c.fact 212) (c.fact 213) (of_decide_eq_true (c.fact 214)) (c.fact 215) (c.fact 216) (c.fact 217) (c.fact 218) (c.fact 219) (of_decide_eq_true (c.fact 220)) (c.fact 221) (of_decide_eq_true (c.fact 222)) (of_decide_eq_true (c.fact 223)) (c.fact 224) (HHk.getO_ok (c.fact 225)) p10_Quarrel p11_Quarrel (He.eqO_ok (c.fact 227)) (He.eqO_ok (c.fact 228)) (of_decide_eq_true (c.fact 229)) (of_decide_eq_true (c.fact 230)) (of_decide_eq_true (c.fact 231)) (c.fact 232) (of_decide_eq_true (c.fact 233)) (He.eqO_ok (c.fact 234)) (of_decide_eq_true (c.fact 235)) (c.fact 236) (of_decide_eq_true (c.fact 237)) (c.fact 238) (c.fact 239) (c.fact 240) (c.fact 241) (c.fact 242) (of_decide_eq_true (c.fact 243)) (c.fact 244) (of_decide_eq_true (c.fact 245)) (of_decide_eq_true (c.fact 246)) (c.fact 247) (HHk.getO_ok (c.fact 248)) p10_Fits p11_Fits (He.eqO_ok (c.fact 250)) (He.eqO_ok (c.fact 251)) (of_decide_eq_true (c.fact 252)) (of_decide_eq_true (c.fact 253)) (of_decide_eq_true (c.fact 254)) (c.fact 255) (of_decide_eq_true (c.fact 256)) (He.eqO_ok (c.fact 257)) (c.fact 258) (of_decide_eq_true (c.fact 259)) (c.fact 260) (c.fact 261) (c.fact 262) (c.fact 263) (c.fact 264) (of_decide_eq_true (c.fact 265)) (c.fact 266) (of_decide_eq_true (c.fact 267)) (of_decide_eq_true (c.fact 268)) (c.fact 269) (HHk.getO_ok (c.fact 270)) p10_Open p11_Open (He.eqO_ok (c.fact 272)) (He.eqO_ok (c.fact 273)) (of_decide_eq_true (c.fact 274)) (of_decide_eq_true (c.fact 275)) (of_decide_eq_true (c.fact 276)) (c.fact 277) (of_decide_eq_true (c.fact 278)) (He.eqO_ok (c.fact 279)) (He.eqO_ok (c.fact 280)) (of_decide_eq_true (c.fact 281)) (of_decide_eq_true (c.fact 282)) (of_decide_eq_true (c.fact 283)) (c.fact 284) (of_decide_eq_true (c.fact 285)) (c.fact 286) (c.fact 287) (of_decide_eq_true (c.fact 288)) (c.fact 289) (c.fact 290) (c.fact 291) (c.fact 292) (c.fact 293) (of_decide_eq_true (c.fact 294)) (c.fact 295) (of_decide_eq_true (c.fact 296)) (of_decide_eq_true (c.fact 297)) (c.fact 298) (HHk.getO_ok (c.fact 299)) p10_Forced p11_Forced (He.eqO_ok (c.fact 301)) (He.eqO_ok (c.fact 302)) (of_decide_eq_true (c.fact 303)) (of_decide_eq_true (c.fact 304)) (of_decide_eq_true (c.fact 305)) (c.fact 306) (of_decide_eq_true (c.fact 307)) (He.eqO_ok (c.fact 308)) (He.eqO_ok (c.fact 309)) (of_decide_eq_true (c.fact 310)) (of_decide_eq_true (c.fact 311)) (of_decide_eq_true (c.fact 312)) (of_decide_eq_true (c.fact 313)) (of_decide_eq_true (c.fact 314)) (of_decide_eq_true (c.fact 315)) (of_decide_eq_true (c.fact 316)) (of_decide_eq_true (c.fact 317)) (of_decide_eq_true (c.fact 318)) (of_decide_eq_true (c.fact 319)) (of_decide_eq_true (c.fact 320)) (of_decide_eq_true (c.fact 321)) (of_decide_eq_true (c.fact 322)) (of_decide_eq_true (c.fact 323)) (of_decide_eq_true (c.fact 324)) (of_decide_eq_true (c.fact 325)) c_MOST_CASES c_MOST_PLACES
end D60
open PySem PySem.W PyProof.Rows
set_option maxHeartbeats 0 in
theorem PySem.Challenge.cw_fourthlike_k60_two_adders_that_part_holds : PySem.Challenge.rw_fourthlike_k60_two_adders_that_part.Holds := by
  w_on; o_law
  refine HandSHeadRun.head_any (r := (OpenLaw.row PySem.Challenge.rw_fourthlike_k60_two_adders_that_part)) (q := view (OpenLaw.row PySem.Challenge.rw_fourthlike_k60_two_adders_that_part).prog [73]) (H := D60.hk) (ob := D60.ob) (M := 9000) (loose := D60.names) (d := HandSHeadRun.topDef (OpenLaw.row PySem.Challenge.rw_fourthlike_k60_two_adders_that_part).prog 73) (kwd := []) D60.ob_eq (by kernel_rfl) (fun s => by kernel_rfl) D60.run (by kernel_rfl) (by kernel_rfl) (by kernel_rfl) (by rfl) (by first | assumption | decide +kernel) (by decide +kernel) ⟨rfl, rfl, rfl, rfl, rfl, by decide +kernel⟩ ?hw ?hc
  case hw => w_witness2
  case hc =>
    refine L2.walk_ofE (l := PySem.Challenge.rw_fourthlike_k60_two_adders_that_part) (n := 63) (k := 9) (x := "script") (CX := L2.CX0) rfl (by decide) (by kernel_rfl) ⟨rfl, by decide, by decide⟩ ?F (fun _ _ _ _ z => z)
    intro w mg fa h Y G hmg0
    obtain ⟨K, KX, c⟩ := Y
    have hmg : mg ("law" : PySem.Str) = some (.ref fa) := by
      have e : (HandSHeadRun.topDef (OpenLaw.row PySem.Challenge.rw_fourthlike_k60_two_adders_that_part).prog 73).name = ("law" : PySem.Str) := by kernel_rfl
      rw [← e]
      exact hmg0
    obtain ⟨fd, hb, hF⟩ := D60.facts (w := w) KX G hmg c
    exact ⟨K, fd, D60.sp_law K, KX, hb, fun H a ns hl _ hS => ⟨a, ns, rfl, hS, hl, fun _ => rfl⟩, hF⟩
