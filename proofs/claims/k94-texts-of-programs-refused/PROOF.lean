import PyProof.Rows.All
import Wide.All
import OpenK.AllK
import Wide.FinOn
import PyProof.EqAt
import PyProof.EqKinds
import PyProof.TupleCall
import KE.KExcSuper
import KE.KSuper
import HandS.Base
import HandS.Call
import HandS.List
import HandS.Exc
import HandS.ExcField
import HandS.ExcIs
import HandS.IsInst
import HandS.Words
import HandS.More
import HandS.Defaults
import HandS.Codes
import HandS.HeadHook1
import HandS.HeadHook2
import HandS.HeadHook3
import HandS.HeadHook4
import KE.KStateDown
import Lean
import Wide.Once
import HandS.Head0
import HandS.Head1
import HandS.Head2
import PyProof.FString
import PyProof.FString4
import HandS.ExcInit
import KE.KDflt
import HandS.Lambda
import HandS.WordsExc
import HandS.ForMost
import HandS.Evl
import HandS.Star
import HandS.Zip
import HandS.Flow
import KE.GoesEnum
import KE.KDictZip
import HandS.Dict
import HandS.Text
import HandS.Comp
import HandS.Conv
import HandS.Style
import HandS.TupAny
import HandS.EndTab
import HandS.HeadWalk
import PySem.Challenge.RW_nevergone_k94_texts_of_programs_refused
set_option Elab.async false
set_option linter.all false
set_option maxRecDepth 100000
set_option maxHeartbeats 1000000
/-! What the head is asked. -/
namespace NvK
open PySem PySem.W PySem.Spec PyProof.Rows PySem.HandSPX
abbrev PR : Program := PySem.Challenge.pw_nevergone_k94_texts_of_programs_refused
def stX (i : Nat) : Stmt := (C8.clsBody (PR.main.body.getD i (.Pass ⟨0, 0, 0, 0⟩))).getD 0 (.Pass ⟨0, 0, 0, 0⟩)
def clsB (K : Frag) (C : Addr) : Bool := match K.lookup C with
  | some ⟨.type t, _, .cls cd, sl⟩ => (match cd.mro, sl.toList with
    | .ref D :: bm, [_, _, _, _, some (.builtin n), _] => decide (t = "type") && (decide (D = C) && (decide (n = "ValueError.__new__") && (!cd.hasDel && (cd.hasDict && refsVE bm))))
    | _, _ => false)
  | _ => false
abbrev FnZ : Type := Option (Str × Str × Arguments × FuncBody × Scope × Addr × List Str × Value × Addr)
def fnZ (K : Frag) (f : Addr) : FnZ := match K.lookup f with
  | some ⟨_, _, .func fd, _⟩ => some (fd.name, fd.qualname, fd.params, fd.body, fd.scope, fd.globals, fd.closure.map (·.1), fd.defaults, fd.builtins)
  | _ => none
structure InD where
  cls : Str
  st : Stmt
def InD.C (K : Frag) (d : InD) : Addr := He.ga K d.cls
def InD.f (K : Frag) (d : InD) : Addr := He.ma K (d.C K) "__init__"
def InD.val (d : InD) : FnZ := some ("__init__", d.cls ++ ".__init__", L2.defArgs d.st, .stmts (L2.defBody d.st), L2.defScope d.st, mainGlobals, ["__class__"], .none, builtinsNs)
def fileB (K : Frag) (F : Str) (v : Value) : Bool := match v with
  | .ref c => (match K.lookup c with
    | some ⟨_, _, .fields vs, _⟩ => (match (vs[2]? : Option Value) with
      | some (.str x _) => F == x
      | _ => false)
    | _ => false)
  | _ => false
def cellB (K : Frag) (C : Addr) (l : List (Str × Addr)) : Bool := match l with
  | [(_, c)] => (match K.lookup c with
    | some ⟨_, _, .cell (some (.ref D)), _⟩ => decide (D = C)
    | _ => false)
  | _ => false
def initB (K : Frag) (F : Str) (d : InD) : Bool := match K.lookup (d.f K) with
  | some ⟨_, _, .func fd, _⟩ => codeIn K fd.code (d.cls ++ ".__init__") && (fileB K F fd.code && cellB K (d.C K) fd.closure)
  | _ => false
def excL (K : Frag) (F : Str) (d : InD) (fs : List Str) : List Bool :=
  [clsB K (d.C K), He.eqO (findIn K (.ref (d.C K)) "__setattr__") (some (some (.builtin "object.__setattr__"))), L2.xfB K (d.C K), fs.all fun f => He.eqO (findIn K (.ref (d.C K)) f) (some none),
    He.eqO (findIn K (.ref (d.C K)) "__init__") (some (some (.ref (d.f K)))), decide (typeIn K (.ref (d.f K)) = some (.type "function")), keepIn K (.ref (d.C K)), decide (subIn K (.ref (d.C K)) (.type "ValueError") = some true),
    decide (typeIn K (.ref (d.C K)) = some (.type "type")), He.eqO (nsIn K mainGlobals "super") (some none), He.eqO (nsIn K cStatics "thirdparty.any") (some none), He.eqO (ks_superIn K (d.C K) (d.C K) "__init__") (some (some (.builtin "ValueError.__init__"))),
    decide (mroIn K (d.C K) (.ref (d.C K)) = some true), initB K F d, He.eqO (findIn K (.ref (d.C K)) "__class__") (some (some (.builtin "object.__class__"))), He.eqO (specialIn K (.builtin "object.__class__") "__get__") (some (some (.builtin "getset_descriptor.__get__"))),
    decide (takesIn K (.builtin "object.__class__") = some true), decide (mroIn K (d.C K) (.type "object") = some true)]
def inText : InD := ⟨"BadText", stX 14⟩
def inProg : InD := ⟨"BadProgram", stX 11⟩
/-! ### what is asked -/
def kF : List Str := ["new", "read", "write", "copy", "drop", "tick"]
def kM : List Str := ["r", "k", "f", "v"]
def dD (x : Str) (st : Stmt) : He.DefD := ⟨(x, none), x, x, L2.defArgs st, L2.defBody st, L2.defScope st, [], []⟩
def dM (x : Str) (st : Stmt) : He.DefD := ⟨("Scan", some x), x, ("Scan" : Str) ++ "." ++ x, L2.defArgs st, L2.defBody st, L2.defScope st, [], []⟩
def fnA : List He.DefD := [dD "is_integer" (PR.main.body.getD 2 (.Pass ⟨0, 0, 0, 0⟩)), dD "is_within" (PR.main.body.getD 3 (.Pass ⟨0, 0, 0, 0⟩)), dD "is_listed" (PR.main.body.getD 4 (.Pass ⟨0, 0, 0, 0⟩)), dD "is_plain_tuple" (PR.main.body.getD 5 (.Pass ⟨0, 0, 0, 0⟩)), dD "fixed" (PR.main.body.getD 20 (.Pass ⟨0, 0, 0, 0⟩)), dD "is_figure" (PR.main.body.getD 26 (.Pass ⟨0, 0, 0, 0⟩)), dD "scan_of" (PR.main.body.getD 28 (.Pass ⟨0, 0, 0, 0⟩)),
  dM "__init__" ((C8.clsBody (PR.main.body.getD 27 (.Pass ⟨0, 0, 0, 0⟩))).getD 0 (.Pass ⟨0, 0, 0, 0⟩)), dM "is_over" ((C8.clsBody (PR.main.body.getD 27 (.Pass ⟨0, 0, 0, 0⟩))).getD 1 (.Pass ⟨0, 0, 0, 0⟩)), dM "ahead" ((C8.clsBody (PR.main.body.getD 27 (.Pass ⟨0, 0, 0, 0⟩))).getD 2 (.Pass ⟨0, 0, 0, 0⟩)), dM "stop" ((C8.clsBody (PR.main.body.getD 27 (.Pass ⟨0, 0, 0, 0⟩))).getD 3 (.Pass ⟨0, 0, 0, 0⟩)), dM "take_of" ((C8.clsBody (PR.main.body.getD 27 (.Pass ⟨0, 0, 0, 0⟩))).getD 4 (.Pass ⟨0, 0, 0, 0⟩)), dM "take_number" ((C8.clsBody (PR.main.body.getD 27 (.Pass ⟨0, 0, 0, 0⟩))).getD 5 (.Pass ⟨0, 0, 0, 0⟩)), dM "end_line" ((C8.clsBody (PR.main.body.getD 27 (.Pass ⟨0, 0, 0, 0⟩))).getD 7 (.Pass ⟨0, 0, 0, 0⟩))]
def fnB : List He.DefD := [dD "is_step" (PR.main.body.getD 33 (.Pass ⟨0, 0, 0, 0⟩)), dD "need_steps" (PR.main.body.getD 34 (.Pass ⟨0, 0, 0, 0⟩)), dD "step_words" (PR.main.body.getD 35 (.Pass ⟨0, 0, 0, 0⟩)), dD "step_text" (PR.main.body.getD 36 (.Pass ⟨0, 0, 0, 0⟩)), dD "program_text" (PR.main.body.getD 37 (.Pass ⟨0, 0, 0, 0⟩)), dD "taken_step" (PR.main.body.getD 38 (.Pass ⟨0, 0, 0, 0⟩)), dD "read_program" (PR.main.body.getD 39 (.Pass ⟨0, 0, 0, 0⟩))]
def fnC : List He.DefD := [dD "_law_pen" (PR.main.body.getD 41 (.Pass ⟨0, 0, 0, 0⟩)), dD "_law_draw" (PR.main.body.getD 42 (.Pass ⟨0, 0, 0, 0⟩)), dD "_law_pick" (PR.main.body.getD 43 (.Pass ⟨0, 0, 0, 0⟩)), dD "_law_heard" (PR.main.body.getD 44 (.Pass ⟨0, 0, 0, 0⟩)), dD "_law_figure" (PR.main.body.getD 45 (.Pass ⟨0, 0, 0, 0⟩)), dD "_law_step_form" (PR.main.body.getD 46 (.Pass ⟨0, 0, 0, 0⟩)), dD "_law_any_step" (PR.main.body.getD 47 (.Pass ⟨0, 0, 0, 0⟩)), dD "_law_step_line" (PR.main.body.getD 48 (.Pass ⟨0, 0, 0, 0⟩)),
  dD "_law_line_wrong" (PR.main.body.getD 49 (.Pass ⟨0, 0, 0, 0⟩)), dD "_law_bent" (PR.main.body.getD 50 (.Pass ⟨0, 0, 0, 0⟩)), dD "law" (PR.main.body.getD 51 (.Pass ⟨0, 0, 0, 0⟩))]
def fnL : List He.DefD := fnA ++ fnB ++ fnC
def gloL : List Str := ["is_integer", "is_within", "is_listed", "is_plain_tuple", "fixed", "is_figure", "scan_of", "is_step", "need_steps", "step_words", "step_text", "program_text", "taken_step", "read_program", "_law_pen", "_law_draw", "_law_pick", "_law_heard", "_law_figure", "_law_step_form", "_law_any_step", "_law_step_line", "_law_line_wrong", "_law_bent", "law",
  "FORMS", "MOST", "Scan", "BadText", "BadProgram", "GoneError", "TooMany"]
def freeL : List Str := ["all", "len", "isinstance", "abs", "int", "str", "bool", "list", "tuple", "range", "enumerate", "zip"]
def methL : List Str := ["is_over", "ahead", "stop", "take_of", "take_number", "end_line"]
def faL : List He.Fa := gloL.map He.Fa.glo ++ freeL.map He.Fa.free ++ methL.map (He.Fa.meth "Scan") ++ [.str "NONE" "-", .str "FIGURES" "0123456789", .cls "Scan", .noat "Scan" "lines", .noat "Scan" "line", .noat "Scan" "at", .mkr "Scan", .exm "BadText" "GoneError" true, .exm "BadProgram" "GoneError" true, .noat "BadText" "line", .noat "BadText" "word", .noat "BadProgram" "at"]
def tsL : List He.Tab := [(fun K => He.ga K "FORMS", kF), (fun K => He.ga K "MOST", kM)]
def tfL : List He.Defn := [("law", none)]
def isL : List InD := [inText, inProg]
def vF : List (Str × He.Dv) := [("new", .str "rk"), ("read", .str "rrf"), ("write", .str "rfv"), ("copy", .str "rr"), ("drop", .str "r"), ("tick", .str "")]
def vM : List (Str × He.Dv) := [("r", .int 3), ("k", .int 2), ("f", .int 1), ("v", .int 3)]
def kitL (K : Frag) : List Bool := [decide (kitOne K (.ref (He.ga K "BadText")) (.ref (He.ga K "TooMany")) = some false), decide (kitOne K (.ref (He.ga K "BadText")) (.ref (He.ga K "BadText")) = some true),
  decide (kitOne K (.ref (He.ga K "BadProgram")) (.ref (He.ga K "TooMany")) = some false), decide (kitOne K (.ref (He.ga K "BadProgram")) (.ref (He.ga K "BadText")) = some false), decide (kitOne K (.ref (He.ga K "BadProgram")) (.ref (He.ga K "BadProgram")) = some true)]
def exN (K : Frag) : Bool := (excL K PR.main.file inText ["line", "word"]).all id && ((excL K PR.main.file inProg ["at"]).all id && ((kitL K).all id && (He.valsB K (He.ga K "FORMS") vF && He.valsB K (He.ga K "MOST") vM)))
/-! ### the hook -/
def asN (g : Addr → Option Obj) (n : Nat) : List Addr := cStatics :: He.asD g n
abbrev AlN : Type := He.AlT × (List FnZ × Bool)
def obsK (g : Addr → Option Obj) (K : Frag) : AlN := (He.obsT faL fnL tsL K, (isL.map fun d => fnZ K (d.f K), exN K && He.tabsB g tfL K))
def obsN (n : Nat) (g : Addr → Option Obj) : AlN := obsK g (He.frT g (asN g n))
def valN (w : World) : AlN := (He.valT fnL tsL w, (isL.map InD.val, true))
structure SaysN (w : World) (h : Heap) (K : Frag) : Prop where
  x : He.SaysX faL fnL tsL tfL exN w h K
  z : isL.map (fun d => fnZ K (d.f K)) = isL.map InD.val
theorem saysN_of {n : Nat} {w : World} {h : Heap} (e : obsN n h.get? = valN w) : SaysN w h (He.frT h.get? (asN h.get? n)) := by
  have i1 := congrArg Prod.fst e
  have i2 := congrArg Prod.snd e
  have i3 := congrArg Prod.fst i2
  have i4 : (exN (He.frT h.get? (asN h.get? n)) && He.tabsB h.get? tfL (He.frT h.get? (asN h.get? n))) = true := congrArg Prod.snd i2
  obtain ⟨j1, j2⟩ := Bool.and_eq_true_iff.mp i4
  have tab : ∀ p ∈ tfL, codeHdIn (He.frT h.get? (asN h.get? n)) (He.cT (He.frT h.get? (asN h.get? n)) p).1 (He.cT (He.frT h.get? (asN h.get? n)) p).2 = true ∧ ∃ o, h.get? (He.cT (He.frT h.get? (asN h.get? n)) p).2 = some o ∧ He.emptyTab o = true := fun p hp => by
    have z := List.all_eq_true.mp j2 p hp
    obtain ⟨z1, z2⟩ := Bool.and_eq_true_iff.mp z
    refine ⟨z1, ?_⟩
    cases q : h.get? (He.cT (He.frT h.get? (asN h.get? n)) p).2 with
    | none => rw [q] at z2; cases z2
    | some o => rw [q] at z2; exact ⟨o, rfl, z2⟩
  refine ⟨⟨i1, j1, fun p hp => (tab p hp).1, fun p hp => ?_, fun p hp => ?_⟩, i3⟩
  · obtain ⟨_, o, q, em⟩ := tab p hp
    exact He.frT_none q em
  · obtain ⟨_, o, q, em⟩ := tab p hp
    rw [q]; exact congrArg some (He.emptyTab_eq em)
def hookN (n : Nat) : Hook where
  α := AlN
  obs := fun s => obsN n s.heap.get?
  val := valN
  says := fun w h => ∃ K : Frag, K.In h ∧ SaysN w h K
  of := fun _ _ e => ⟨_, He.frT_in, saysN_of e⟩
  keeps := fun _ _ _ ⟨K, hK, c⟩ k => ⟨K, PySem.W.Frag.In.keeps hK k, ⟨⟨c.x.t, c.x.more, c.x.hd, c.x.out, fun p hp => k _ _ (c.x.empty p hp)⟩, c.z⟩⟩
theorem obsN_eq {n : Nat} {g : Addr → Option Obj} {s : Shared} (h : ∀ a, g a = s.heap.get? a) : obsN n g = (hookN n).obs s := by
  have e : g = s.heap.get? := funext h
  subst e
  rfl
end NvK
set_option Elab.async false
set_option linter.all false
set_option maxRecDepth 100000
set_option maxHeartbeats 0
/-! The head's run. -/
namespace NvK
open PySem PySem.W PySem.Spec PyProof.Rows PySem.HandSPX
abbrev R : PySem.W.OpenRow := PySem.W.OpenLaw.row PySem.Challenge.rw_nevergone_k94_texts_of_programs_refused
abbrev hk : PySem.W.Hook := hookN 6
def ob (s : PySem.W.SharedT) : AlN := obsN 6 (HandSHeadRun.getT s)
theorem ob_eq (s : PySem.W.SharedT) : ob s = hk.obs s.abs := obsN_eq (HandSHeadRun.getT_eq s)
def l0 : List Str := ["_wall", "is_integer", "is_within", "is_listed", "is_plain_tuple", "GoneError", "BadHouse", "BadHeap", "BadStep", "BadProgram", "BadNumber", "BadValue", "BadText", "BadLine", "Misfit", "Nothing", "TooMany", "fixed", "MOST_KINDS", "MOST_LINKS", "MOST_REGISTERS", "FIGURES", "is_figure", "Scan", "scan_of", "NONE", "FORMS", "MOST", "is_step", "need_steps"]
def l1 : List Str := ["step_words", "step_text", "program_text", "taken_step", "read_program", "_law_pen", "_law_draw", "_law_pick", "_law_heard", "_law_figure", "_law_step_form", "_law_any_step", "_law_step_line", "_law_line_wrong", "_law_bent"]
def lo : List Str := l0 ++ l1
theorem run0 (w : World) : HandSHeadRun.RunEq R (PySem.W.view R.prog [51]) hk ob 4800 lo (w.withFollow "special-get-raises" false) := by
  intro os
  kernel_rfl
theorem run1 (w : World) : HandSHeadRun.RunEq R (PySem.W.view R.prog [51]) hk ob 4800 lo (w.withFollow "special-get-raises" true) := by
  intro os
  kernel_rfl
theorem run (w : World) : HandSHeadRun.RunEq R (PySem.W.view R.prog [51]) hk ob 4800 lo w := PySem.W.byRow2 "special-get-raises" run0 run1 w
end NvK
set_option Elab.async false
set_option linter.all false
set_option maxRecDepth 100000
set_option maxHeartbeats 4000000
/-! Exceptions of the package: class X(GoneError): __init__ says super().__init__(f'..') and stores each parameter under its own name. -/
namespace NvX
open PySem PySem.W PySem.Calls PyProof.Rows PySem.HandSPX
/-- the stores self.f = f -/
def sts : List (Str × Pos × Pos × Pos × Pos) → List Stmt
  | [] => []
  | (f, q1, q2, q3, q4) :: r => .Assign [.Attribute (.Name "self" q1) f q2] (.Name f q3) q4 :: sts r
def initBody (p0 p1 p2 p3 p4 pj : Pos) (v1 v2 : Expr) (vr : List Expr) (fs : List (Str × Pos × Pos × Pos × Pos)) : List Stmt :=
  .Expr (.Call (.Attribute (.Call (.Name "super" p0) [] [] p1) "__init__" p2) [.JoinedStr (v1 :: v2 :: vr) pj] [] p3) p4 :: sts fs
/-- a part of the text: written, or a parameter -/
inductive Part : Expr → Prop where
  | con (x : Str) (j : Nat) (p : Pos) (h : x.length ≤ 1000) : Part (.Constant (.str x) j p)
  | fmt (f : Str) (p q : Pos) : Part (.FormattedValue (.Name f p) (-1) none q)
section
variable {prog : Program} {w : World} {A : Around} {E : Value → Shared → Prop} {s : Shared} {env : Env} {m : Str → Option Value}
def Small (v : Value) : Prop := (∃ x t, v = .str x t ∧ x.length ≤ 2000) ∨ ∃ i t, v = .int i t ∧ i.natAbs.log2 < 1920
theorem app_len (a b : Str) : (a ++ b).length = a.length + b.length := by
  show (Str.append a b).length = _
  simp [Str.append, Str.length]
theorem joins_ok (hk : env.scope.kind = .function) (hn : s.heap.Ns env.locals m) : ∀ (ps : List Expr) (acc : Str) (tk : Nat) (R : Str → Shared → Prop), (∀ e ∈ ps, Part e) →
    (∀ f p q, (.FormattedValue (.Name f p) (-1) none q : Expr) ∈ ps → env.kindOf f = some .local ∧ (f == ("__debug__" : Str)) = false ∧ ∃ v, m f = some v ∧ Small v) → acc.length + 2100 * ps.length ≤ 16000000 →
    (∀ out tk', out.length ≤ sizeLine → R out { s with toks := tk' }) → Joins (model prog w) A E (evalEach ps env) acc R { s with toks := tk }
  | [], acc, tk, R, _, _, hz, h => by
    have e0 : evalEach [] env = [] := by first | rfl | simp [evalEach]
    rw [e0]
    exact h acc tk (by rw [sizeLine_eq]; simp only [List.length_nil] at hz; omega)
  | e :: ps, acc, tk, R, hp, hf, hz, h => by
    have e0 : evalEach (e :: ps) env = eval e env :: evalEach ps env := by first | rfl | simp [evalEach]
    rw [e0]
    have hz' : acc.length + 2100 * (ps.length + 1) ≤ 16000000 := by simpa using hz
    have rec_ : ∀ (y : Str) (tk' : Nat), y.length ≤ 2100 → (acc ++ y).length ≤ sizeLine ∧ Joins (model prog w) A E (evalEach ps env) (acc ++ y) R { s with toks := tk' } := fun y tk' hy => by
      have e1 := app_len acc y
      refine ⟨by rw [sizeLine_eq, e1]; omega, joins_ok hk hn ps (acc ++ y) tk' R (fun e he => hp e (List.mem_cons_of_mem _ he)) (fun f p q hm => hf f p q (List.mem_cons_of_mem _ hm)) (by rw [e1]; omega) h⟩
    cases hp e List.mem_cons_self with
    | con x j p hx =>
      refine Calls.Constant_str ?_
      obtain ⟨h1, h2⟩ := rec_ x (tk + 1) (by omega)
      exact ⟨x, _, rfl, h1, h2⟩
    | fmt f p q =>
      obtain ⟨hl, hd, v, hv, hs⟩ := hf f p q List.mem_cons_self
      refine wpAny_FormattedValue_plain (wpAny_Name (wpAny_loadName_local hk hl hn hv ?_) hd)
      rcases hs with ⟨x, t, rfl, hx⟩ | ⟨i, t, rfl, hi⟩
      · refine wpAny_formatField_str ?_ ?_ (by rw [sizeLine_eq]; omega)
        · obtain ⟨h1, h2⟩ := rec_ x tk (by omega)
          exact ⟨x, _, rfl, h1, h2⟩
        · obtain ⟨h1, h2⟩ := rec_ x (tk + 1) (by omega)
          exact ⟨x, _, rfl, h1, h2⟩
      · refine wpAny_formatField_int hi ?_
        obtain ⟨h1, h2⟩ := rec_ (Str.ofString (toString i)) (tk + 1 + 1) (by have := PyProof.Rows.int_text_len_1921 hi; omega)
        exact ⟨_, _, rfl, h1, h2⟩
end
end NvX
set_option Elab.async false
set_option linter.all false
set_option maxRecDepth 100000
set_option maxHeartbeats 4000000
namespace NvX
open PySem PySem.W PySem.Calls PyProof.Rows PySem.HandSPX
/-- what the written part says of an exception class X at C, its __init__ at fI, its fields fs -/
structure Txt (prog : Program) (K : Frag) (mg : Str → Option Value) (x : Str) (C fI : Addr) (fs : List Str) : Prop where
  gC : mg x = some (.ref C)
  cls : ∃ nm q N bs bm sn sub ab col dd k0 k1 k2 k3 k5, K.lookup C = some (excClassObj nm q C N bs bm true sn sub ab col dd k0 k1 k2 k3 k5 "ValueError.__new__") ∧ refsVE bm = true
  sa : findIn K (.ref C) "__setattr__" = some (some (.builtin "object.__setattr__"))
  ga : findIn K (.ref C) "__getattribute__" = some (some (.builtin "BaseException.__getattribute__"))
  gg : findIn K (.ref C) "__getattr__" = some none
  noF : ∀ f ∈ fs, findIn K (.ref C) f = some none
  iC : findIn K (.ref C) "__init__" = some (some (.ref fI))
  tC : typeIn K (.ref fI) = some (.type "function")
  kC : keepIn K (.ref C) = true
  exC : subIn K (.ref C) (.type "BaseException") = some true
  veC : subIn K (.ref C) (.type "ValueError") = some true
  tyC : typeIn K (.ref C) = some (.type "type")
  hdC : hasDictIn K C = true
  su : nsIn K mainGlobals "super" = some none
  st : nsIn K cStatics "thirdparty.any" = some none
  hm : ks_superIn K C C "__init__" = some (some (.builtin "ValueError.__init__"))
  hsub : mroIn K C (.ref C) = some true
  htop : (prog.main.scope.names.lookup ("super" : Str)).isSome = false
  fn : ∃ (oc : Value) (od : Option Addr) (osl : Array (Option Value)) (params : Arguments) (scope : Scope) (kV doc pm ct : Value) (an : Option Addr) (cda cc : Addr) (p0 p1 p2 p3 p4 pj : Pos) (v1 v2 : Expr) (vr : List Expr) (ps : List (Str × Pos × Pos × Pos × Pos)) (pa : Pos) (prs : List Arg),
    K.lookup fI = some ⟨oc, od, .func (ksFn "__init__" (x ++ ".__init__") params (initBody p0 p1 p2 p3 p4 pj v1 v2 vr ps) scope .none kV doc pm an (.ref cda) ct cc), osl⟩ ∧ codeIn K (.ref cda) (x ++ ".__init__") = true ∧
    (∃ (ccl : Value) (cdd : Option Addr) (vs : Array Value) (ccs : Array (Option Value)) (file : Str) (tf : Tok), K.lookup cda = some ⟨ccl, cdd, .fields vs, ccs⟩ ∧ vs[2]? = some (.str file tf) ∧ ((prog.main.file : Str) == file) = true) ∧
    (∃ (cl : Value) (cld : Option Addr) (csl : Array (Option Value)), K.lookup cc = some ⟨cl, cld, .cell (some (.ref C)), csl⟩) ∧
    params = { posonlyargs := [], args := { arg := "self", annotation := none, pos := pa } :: prs, vararg := none, kwonlyargs := [], kw_defaults := [], kwarg := none, defaults := [] } ∧ prs.map (·.arg) = fs ∧
    ps.map (·.1) = fs ∧ (∀ e ∈ v1 :: v2 :: vr, Part e) ∧ (v1 :: v2 :: vr).length ≤ 10 ∧ (∀ f p q, (.FormattedValue (.Name f p) (-1) none q : Expr) ∈ v1 :: v2 :: vr → f ∈ fs) ∧
    (∀ f ∈ fs, scope.names.lookup f = some .local ∧ (f == ("__debug__" : Str)) = false ∧ f ≠ "self") ∧ fs.Nodup ∧ fs ≠ [] ∧ fs.length ≤ 5 ∧ scope.names.lookup ("self" : Str) = some .local ∧ scope.names.lookup ("super" : Str) = some .globalImplicit ∧
    scope.names.lookup ("__class__" : Str) = some .free ∧ (∀ y ∈ scope.names, y.2 ≠ .cell) ∧ scope.kind = .function ∧ scope.isCoroutine = false ∧ scope.isGenerator = false ∧
    (∀ us : List Value, us.length = fs.length + 1 → bindArgs (ksFn "__init__" (x ++ ".__init__") params (initBody p0 p1 p2 p3 p4 pj v1 v2 vr ps) scope .none kV doc pm an (.ref cda) ct cc) ⟨us, []⟩ = pure (((("self" : Str) :: fs)).zip us)) ∧
    ∃ pl : Env → Sem Bool, ∀ env : Env, eval (.Call (.Attribute (.Call (.Name "super" p0) [] [] p1) "__init__" p2) [.JoinedStr (v1 :: v2 :: vr) pj] [] p3) env = (do
      let ov ← attributeBase (.Call (.Name "super" p0) [] [] p1) "__init__" env (eval (.Call (.Name "super" p0) [] [] p1) env)
      standAt p2.atName
      let (f, first) ← holding [ov] (getMethod ov "__init__" (pl env))
      callWith p3 f first (backTo p3 (starEach [.JoinedStr (v1 :: v2 :: vr) pj] env)) [])
section
variable {prog : Program} {w : World} {A : Around} {E : Value → Shared → Prop} {h : Heap} {g : Array GenState} {d : Drawn} {t : Nat} {os : OsState}
variable {nm q : Str} {C N : Addr} {bs bm : List Value} {hdct : Bool} {sn : List Str} {sub : List Value} {ab : Bool} {col : Option Bool} {dd : Option Addr} {k0 k1 k2 k3 k5 : Option Value}
/-- super().__init__(..) called: the bound built-in -/
theorem call_mw {u e t0 : Addr} {rest : List Value} {Q : Value → Shared → Prop}
    (hC : h.get? C = some (excClassObj nm q C N bs bm hdct sn sub ab col dd k0 k1 k2 k3 k5 "ValueError.__new__")) (he : h.get? e = some (excO C t0)) (hu : h.get? u = some (kxs_mw "ValueError.__init__" e)) (hrest : rest.length ≤ sizeLine)
    (hq : ∀ h' t1, (∀ b o, b ≠ e → h.get? b = some o → h'.get? b = some o) → h'.get? e = some (excO C t1) → Q .none ⟨h', g, d, t, os⟩) :
    wpAny (model prog w) A (call (.ref u) rest) Q E ⟨h, g, d, t, os⟩ := by
  refine wpAny_call (codeAny_of_tree ?_)
  show wpAny _ A.in1 (callAny (.ref u) ⟨rest, []⟩) _ _ _
  simp only [callAny]
  refine wpAny_bind (wpAny_load hu ?_)
  simp only [kxs_mw, show (Value.type "method-wrapper" == Value.type "method" || Value.type "method-wrapper" == Value.type "builtin_function_or_method" || Value.type "method-wrapper" == Value.type "method-wrapper") = true by decide, if_true]
  refine W.KFB.if_so (by decide) ?_
  refine wpAny_bind (check_bound_init F.excBase_ValueError.toExcCallFacts hC he rfl ?_)
  refine wpAny_bind (wpAny_pure (wpAny_pure ?_))
  refine ⟨Code.quiet_builtin _ (by decide +kernel), codeAny_builtin F.excBase_ValueError.initEntry ?_⟩
  rw [Around.under_plainId F.excBase_ValueError.init.plain _]
  wp_walk
  refine hq _ h.objs.size (fun b o hb ho => ?_) ?_
  · rw [Heap.get?_update_other _ _ (Ne.symm hb)]
    exact Heap.get?_push_of_some _ ho
  · rw [Heap.get?_update_self _ (Heap.get?_push_of_some _ he) rfl]
    rfl
end
/-- an exception object's dict as stores go on -/
def acc (m : Str → Option Value) : List Str → (Str → Option Value) → Str → Option Value
  | [], m0 => m0
  | f :: r, m0 => acc m r fun y => if y = f then m f else m0 y
section
variable {prog : Program} {w : World} {A : Around} {E : Value → Shared → Prop} {env : Env} {m : Str → Option Value} {K : Frag} {mg : Str → Option Value} {x C fI : Addr} {xn : Str} {fs0 : List Str}
/-- the further stores: the exception has its dict -/
theorem stores_old (T : Txt prog K mg xn C fI fs0) (hk : env.scope.kind = .function) (hself : env.kindOf "self" = some .local) (hmS : m "self" = some (.ref x)) {dx t1 : Addr} (hdx : dx ≠ x) :
    ∀ (ps : List (Str × Pos × Pos × Pos × Pos)) (h : Heap) (m0 : Str → Option Value) (nl : List Str) (R : Shared → Prop) (g : Array GenState) (d : Drawn) (t : Nat) (os : OsState), (∀ p ∈ ps, p.1 ∈ fs0 ∧ env.kindOf p.1 = some .local ∧ (p.1 == ("__debug__" : Str)) = false ∧ ∃ v, m p.1 = some v) → K.In h → K.lookup dx = none → env.locals ≠ dx → h.Ns env.locals m →
      h.get? x = some { cls := .ref C, dict := some dx, data := .fields #[.ref t1, .none, .none, .none, .bool false, .none] } → h.Ns1 dx m0 → Within m0 nl → nl.length + ps.length ≤ 900 →
      (∀ h' tk, (∀ b o, b ≠ dx → h.get? b = some o → h'.get? b = some o) → h'.Ns1 dx (acc m (ps.map (·.1)) m0) → R ⟨h', g, d, tk, os⟩) →
      wpAny (model prog w) A (execs (sts ps) env) (fun f s' => f = .next ∧ R s') E ⟨h, g, d, t, os⟩
  | [], h, m0, nl, R, g, d, t, os, hp, KX, hKd, hL, hn, hx, hns, hw, hz, hq => wpAny_execs_nil ⟨rfl, hq h t (fun _ _ _ e => e) hns⟩
  | (f, q1, q2, q3, q4) :: ps, h, m0, nl, R, g, d, t, os, hp, KX, hKd, hL, hn, hx, hns, hw, hz, hq => by
    obtain ⟨hf0, hfl, hfd, v, hv⟩ := hp _ List.mem_cons_self
    have hfv : m f = some v := hv
    obtain ⟨nm, q, N, bs, bm, sn, sub, ab, col, dd, k0, k1, k2, k3, k5, hC, hbm⟩ := T.cls
    have hcl : clsIn K C = some { name := nm, bases := bs, mro := .ref C :: bm, ns := N, qualname := q, hasDict := true, slotNames := sn, subclasses := sub, abstract := ab, collection := col, hasDel := false } := by unfold clsIn; rw [hC] <;> rfl
    obtain ⟨oD, _, _, hoD, _, _⟩ := hns.count hw
    show wpAny _ _ (execs (.Assign [.Attribute (.Name "self" q1) f q2] (.Name f q3) q4 :: sts ps) env) _ _ _
    refine wpAny_execs_cons (plainObj_wpAny_Assign_Attribute (wpAny_Name (wpAny_loadName_local hk hfl hn hfv ?_) hfd))
    refine wpAny_Name (wpAny_loadName_local hk hself hn hmS ?_) (by decide)
    refine set_plain KX (ox := { cls := .ref C, dict := some dx, data := .fields #[.ref t1, .none, .none, .none, .bool false, .none] }) (od := some oD) ⟨hx, rfl, rfl, hoD⟩ T.sa ?_
    refine PySem.OEX.osa_old KX hx hns hw (by simp only [List.length_cons] at hz; omega) hcl (show refsVE (.ref C :: bm) = true from hbm) rfl (T.noF f hf0) (fun h' tk' k hn' => ?_)
    show wpAny _ _ (execs (sts ps) env) _ _ _
    have KX' : K.In h' := fun a o e => k a o (fun z => by rw [z, hKd] at e; cases e) (KX a o e)
    obtain ⟨oL, es, ep, hoL, rL⟩ := hn
    refine stores_old T hk hself hmS hdx ps h' _ (f :: nl) R g d tk' os (fun p hp' => hp p (List.mem_cons_of_mem _ hp')) KX' hKd hL ⟨oL, es, ep, k _ _ hL hoL, rL⟩ (k _ _ hdx.symm hx) hn' (Within.cons f v hw) (by simp only [List.length_cons] at hz ⊢; omega) (fun h'' tk kk hn'' => ?_)
    refine hq h'' tk (fun b o hb e => kk b o hb (k b o hb e)) ?_
    have e2 : acc m (List.map (·.1) ((f, q1, q2, q3, q4) :: ps)) m0 = acc m (List.map (·.1) ps) (fun y => if y = f then some v else m0 y) := by
      show acc m (List.map (·.1) ps) (fun y => if y = f then m f else m0 y) = _
      rw [hfv]
    rw [e2]
    exact hn''
end
end NvX
set_option Elab.async false
set_option linter.all false
set_option maxRecDepth 100000
set_option maxHeartbeats 4000000
namespace NvX
open PySem PySem.W PySem.Calls PyProof.Rows PySem.HandSPX
theorem acc_last (m : Str → Option Value) : ∀ (fs : List Str) (m0 : Str → Option Value) (y : Str), acc m fs m0 y = if y ∈ fs then m y else m0 y
  | [], m0, y => by simp [acc]
  | f :: r, m0, y => by
    rw [acc, acc_last m r]
    by_cases h : y ∈ r
    · simp [h]
    · by_cases e : y = f
      · simp [e]
      · simp [h, e]
/-- what X(v, ..)'s __init__ leaves -/
structure InitEnd (m : Str → Option Value) (fs : List Str) (h h' : Heap) (x C dx t1 : Addr) : Prop where
  keep : ∀ b o, h.get? b = some o → h'.get? b = some o
  obj : h'.get? x = some { cls := .ref C, dict := some dx, data := .fields #[.ref t1, .none, .none, .none, .bool false, .none] }
  dbig : h.objs.size ≤ dx
  dne : dx ≠ x
  ns : h'.Ns1 dx fun y => if y ∈ fs then m y else none
/-- a base heap below s: the module's names, the built-ins -/
structure Ground (K : Frag) (mg : Str → Option Value) (hb h : Heap) (x : Addr) : Prop where
  kin : K.In hb
  glob : hb.Ns mainGlobals mg
  blt : ∃ mb, hb.Ns builtinsNs mb ∧ ∀ x : Str, x ≠ "__name__" → mb x = bootBuiltins x
  keep : ∀ b o, hb.get? b = some o → h.get? b = some o
  size : hb.objs.size ≤ h.objs.size
  no : hb.get? x = none
  lim : h.NoLimit
section
variable {prog : Program} {w : World} {A : Around} {E : Value → Shared → Prop} {R : Result → Shared → Prop} {K : Frag} {mg : Str → Option Value} {x C fI t0 : Addr} {xn : Str} {fs : List Str} {hb : Heap} {s : Shared}
theorem lookup_zip_mem : ∀ {fs : List Str} {us : List Value} {f : Str}, fs.length = us.length → f ∈ fs → ∃ v, (fs.zip us).lookup f = some v ∧ v ∈ us
  | [], _, f, _, h => nomatch h
  | a :: fs, [], f, h, _ => by simp at h
  | a :: fs, u :: us, f, h, hm => by
    show ∃ v, (match f == a with | true => some u | false => (fs.zip us).lookup f) = some v ∧ v ∈ u :: us
    cases e : f == a with
    | true => exact ⟨u, rfl, List.mem_cons_self⟩
    | false =>
      have hm' : f ∈ fs := by
        rcases List.mem_cons.mp hm with z | z
        · rw [z] at e; simp at e
        · exact z
      obtain ⟨v, h1, h2⟩ := lookup_zip_mem (by simpa using h) hm'
      exact ⟨v, h1, List.mem_cons_of_mem _ h2⟩
theorem lookup_app_none {l r : List (Str × Value)} {y : Str} (h : l.lookup y = none) : (l ++ r).lookup y = r.lookup y := by
  induction l with
  | nil => rfl
  | cons p l ih =>
    obtain ⟨a, b⟩ := p
    have h' : (match y == a with | true => some b | false => l.lookup y) = none := h
    show (match y == a with | true => some b | false => (l ++ r).lookup y) = _
    cases e : y == a with
    | true => rw [e] at h'; cases h'
    | false => rw [e] at h'; exact ih h'
theorem lookup_app_some {l r : List (Str × Value)} {y : Str} {v : Value} (h : l.lookup y = some v) : (l ++ r).lookup y = some v := by
  induction l with
  | nil => cases h
  | cons p l ih =>
    obtain ⟨a, b⟩ := p
    have h' : (match y == a with | true => some b | false => l.lookup y) = some v := h
    show (match y == a with | true => some b | false => (l ++ r).lookup y) = _
    cases e : y == a with
    | true => rw [e] at h'; exact h'
    | false => rw [e] at h'; exact ih h'
theorem lookup_none_of : ∀ {l : List (Str × Value)} {y : Str}, ¬ y ∈ l.map (·.1) → l.lookup y = none
  | [], _, _ => rfl
  | (a, b) :: l, y, h => by
    show (match y == a with | true => some b | false => l.lookup y) = none
    have h1 : y ≠ a := fun z => h (by rw [z]; exact List.mem_cons_self)
    have e : (y == a) = false := by simpa using h1
    rw [e]
    exact lookup_none_of fun z => h (List.mem_cons_of_mem _ z)
theorem lookup_rev : ∀ {l : List (Str × Value)}, (l.map (·.1)).Nodup → ∀ y, l.reverse.lookup y = l.lookup y
  | [], _, _ => rfl
  | (a, b) :: l, h, y => by
    have h' : ¬ a ∈ l.map (·.1) ∧ (l.map (·.1)).Nodup := by simpa using h
    rw [List.reverse_cons]
    have ih := lookup_rev h'.2 y
    show _ = (match y == a with | true => some b | false => l.lookup y)
    cases e : y == a with
    | true =>
      have ey : y = a := by simpa using e
      have : l.reverse.lookup y = none := by rw [ih, ey]; exact lookup_none_of h'.1
      rw [lookup_app_none this]
      show (match y == a with | true => some b | false => none) = some b
      rw [e]
    | false =>
      cases q : l.reverse.lookup y with
      | some v => rw [lookup_app_some q, ← ih, q]
      | none =>
        rw [lookup_app_none q, ← ih, q]
        show (match y == a with | true => some b | false => none) = none
        rw [e]
theorem map_zip_fst : ∀ {fs : List Str} {us : List Value}, fs.length = us.length → (fs.zip us).map (·.1) = fs
  | [], _, _ => rfl
  | a :: fs, [], h => by simp at h
  | a :: fs, u :: us, h => by
    show a :: (fs.zip us).map (·.1) = a :: fs
    rw [map_zip_fst (by simpa using h)]
theorem init_run (T : Txt prog K mg xn C fI fs) (G : Ground K mg hb s.heap x) {us : List Value} (hx : s.heap.get? x = some (excO C t0)) (hl : us.length = fs.length) (hs : ∀ u ∈ us, Small u) (hroom : A.depth < recursionLimit)
    (hq : ∀ h' tk dx t1, InitEnd (fun y => (fs.zip us).lookup y) fs hb h' x C dx t1 → R (.ok (.ret .none)) { s with heap := h', toks := tk }) :
    codeAny (model prog w) A (.call (.ref fI) ⟨.ref x :: us, []⟩) R s := by
  obtain ⟨oc, od, osl, params, scope, kV, doc, pm, ct, an, cda, cc, p0, p1, p2, p3, p4, pj, v1, v2, vr, ps, pa, prs, hfn, hcd, ⟨ccl, cdd, cvs, ccs, file, tf, hcode, hvs, hfile⟩, ⟨cl, cld, csl, hcell⟩, hpar, hprs, hps, hparts, hplen, hpfs, hfs, hnd, hne, hf5, hkS, hkSu, hkC, hnoc, hkind, hco, hgen, hbd, pl, hcall⟩ := T.fn
  obtain ⟨nm, q, N, bs, bm, sn, sub, ab, col, dd, k0, k1, k2, k3, k5, hC, hbm⟩ := T.cls
  have hcl : clsIn K C = some { name := nm, bases := bs, mro := .ref C :: bm, ns := N, qualname := q, hasDict := true, slotNames := sn, subclasses := sub, abstract := ab, collection := col, hasDel := false } := by unfold clsIn; rw [hC] <;> rfl
  have Xs : K.In s.heap := G.kin.keeps G.keep
  have hKx : K.lookup x = none := by
    cases e : K.lookup x with
    | none => rfl
    | some o =>
      have z := G.kin _ _ e
      rw [G.no] at z
      cases z
  have hbind : BindsTo s (ksFn "__init__" (xn ++ ".__init__") params (initBody p0 p1 p2 p3 p4 pj v1 v2 vr ps) scope .none kV doc pm an (.ref cda) ct cc) ⟨.ref x :: us, []⟩ ((("self" : Str) :: fs).zip (.ref x :: us)) := .of_eq (hbd _ (by simp [hl]))
  refine ks_codeAny_call_defAt (binds := (("self" : Str) :: fs).zip (.ref x :: us)) (body := initBody p0 p1 p2 p3 p4 pj v1 v2 vr ps) hroom (Xs _ _ hfn) rfl G.lim (codeRec_of Xs hcd) rfl hbind hnoc ?_ (fun h₁ hns hk₁ => ?_) hco hgen hkind
  · intro y hy
    obtain ⟨h1, h2⟩ := List.of_mem_zip (a := y.1) (b := y.2) hy
    rcases List.mem_cons.mp h1 with e | e
    · rw [e]; exact hkS
    · exact (hfs _ e).1
  have hnoself : ¬ ("self" : Str) ∈ fs := fun z => (hfs _ z).2.2 rfl
  have hnodz : (((("self" : Str) :: fs).zip (Value.ref x :: us)).map (·.1)).Nodup := by
    rw [map_zip_fst (by simp [hl])]
    exact List.nodup_cons.mpr ⟨hnoself, hnd⟩
  have hlook : ∀ y, (((("self" : Str) :: fs).zip (Value.ref x :: us)).reverse.lookup y) = (match y == ("self" : Str) with | true => some (Value.ref x) | false => (fs.zip us).lookup y) := fun y => lookup_rev hnodz y
  have hmS : (fun y => (((("self" : Str) :: fs).zip (Value.ref x :: us)).reverse.lookup y)) "self" = some (.ref x) := by
    show (((("self" : Str) :: fs).zip (Value.ref x :: us)).reverse.lookup ("self" : Str)) = _
    rw [hlook]
    have e : (("self" : Str) == ("self" : Str)) = true := by simp
    rw [e]
  have hmF : ∀ f ∈ fs, (fun y => (((("self" : Str) :: fs).zip (Value.ref x :: us)).reverse.lookup y)) f = (fs.zip us).lookup f := fun f hf => by
    show (((("self" : Str) :: fs).zip (Value.ref x :: us)).reverse.lookup f) = _
    rw [hlook]
    have e : (f == ("self" : Str)) = false := by simpa using (hfs f hf).2.2
    rw [e]
  have hvF : ∀ f ∈ fs, ∃ v, (fs.zip us).lookup f = some v ∧ Small v := fun f hf => by
    obtain ⟨v, h1, h2⟩ := lookup_zip_mem hl.symm hf
    exact ⟨v, h1, hs v h2⟩
  obtain ⟨mm, hmm⟩ : ∃ mm : Str → Option Value, mm = fun y => (((("self" : Str) :: fs).zip (Value.ref x :: us)).reverse.lookup y) := ⟨_, rfl⟩
  rw [← hmm] at hmS hmF hns
  obtain ⟨L, hLe⟩ : ∃ L, L = s.heap.objs.size := ⟨_, rfl⟩
  rw [← hLe] at hns
  show PySem.wpAt (model prog w) (A.deeper (ksEnv (xn ++ ".__init__") scope s.heap.objs.size fI (.ref cda) cc)) (.func (initBody p0 p1 p2 p3 p4 pj v1 v2 vr ps) (ksEnv (xn ++ ".__init__") scope s.heap.objs.size fI (.ref cda) cc)) (execs (initBody p0 p1 p2 p3 p4 pj v1 v2 vr ps) (ksEnv (xn ++ ".__init__") scope s.heap.objs.size fI (.ref cda) cc)) _ _ _
  rw [← hLe]
  have kb : ∀ b o, hb.get? b = some o → h₁.get? b = some o := fun b o e => hk₁ b o (G.keep b o e)
  have F1 : Fr hb L h₁ mm := ⟨hns, kb, by rw [hLe]; exact G.size⟩
  have N1 : News hb L h₁ [(x, excO C t0)] := fun p hp => by
    rcases List.mem_singleton.mp hp with rfl
    exact ⟨hk₁ _ _ hx, by rw [hLe]; exact Nat.ne_of_lt (Heap.lt_size hx), G.no⟩
  have I1 : InstAt h₁ x (excO C t0) C none := ⟨hk₁ _ _ hx, rfl, rfl, trivial⟩
  have X1 : K.In h₁ := G.kin.keeps kb
  show PySem.wpAt _ _ _ (execs (.Expr (.Call (.Attribute (.Call (.Name "super" p0) [] [] p1) "__init__" p2) [.JoinedStr (v1 :: v2 :: vr) pj] [] p3) p4 :: sts ps) _) _ _ _
  refine ks_wpAt_execs_cons (ks_wpAt_Expr_any (ks_wpAt_MethodCall ?_ (hcall _)) (by simp [interactive, hkind]) rfl)
  have hCD : ∃ oD, h₁.get? C = some oD ∧ oD.data = .cls { name := nm, bases := bs, mro := .ref C :: bm, ns := N, qualname := q, hasDict := true, slotNames := sn, subclasses := sub, abstract := ab, collection := col, hasDel := false } := ⟨_, X1 _ _ hC, rfl⟩
  obtain ⟨oD, hD1, hD2⟩ := hCD
  obtain ⟨mb, hb1, hb2⟩ := G.blt
  refine ks_wpAt_super_base (env := ksEnv (xn ++ ".__init__") scope L fI (.ref cda) cc) hkSu hkC (by decide +kernel) rfl (X1 _ _ hfn) rfl (by show (params.posonlyargs ++ params.args).head? = _; rw [hpar]; rfl) rfl (X1 _ _ hcode) rfl hvs hfile T.htop ?_
  refine ks_loadName_global hkind hkSu (loadGlobal_builtin (env := ksEnv (xn ++ ".__init__") scope L fI (.ref cda) cc) (G.glob.keeps kb) (mg_none_of G.kin G.glob T.su) (hb1.keeps kb) ((hb2 _ (by decide +kernel)).trans (by decide +kernel)) ⟨rfl, ?_⟩)
  refine wpAny_loadName_free hkind hkC rfl ⟨_, X1 _ _ hcell, rfl⟩ ?_
  refine wpAny_loadName_local hkind hkS hns hmS ?_
  refine ks_wpAny_isType_cls hD1 hD2 ⟨rfl, ?_⟩
  obtain ⟨sh, sg, sd, stk, sos⟩ := s
  refine ks_wpAny_call_super hD1 hD2 I1.at_ I1.cls (fun c e => ?_) (looks_mroIn X1 T.hsub) (fun h2 e2 k2 => ?_)
  · cases e
  obtain ⟨F2, N2, l2⟩ := ks_newsPush (s := ⟨h₁, sg, sd, stk, sos⟩) F1 N1 rfl e2 k2
  refine kxs_method (s := ⟨h2, sg, sd, _, sos⟩) kxs_ValueError F2 G.kin N2 (List.mem_cons_self) (show InstAt h2 x (excO C t0) C none from ⟨k2 _ _ I1.at_, rfl, rfl, trivial⟩) T.st T.hm T.veC (by decide +kernel) (fun u h3 F3 N3 l3 => ?_)
  refine kxs_callWith1 (i := "ValueError.__init__") (x := x) N3 List.mem_cons_self ?_
  show wpAny _ _ (spliced ((false, eval (.JoinedStr (v1 :: v2 :: vr) pj) (ksEnv (xn ++ ".__init__") scope L fI (.ref cda) cc)) :: backTo p3 (starEach [] (ksEnv (xn ++ ".__init__") scope L fI (.ref cda) cc)))) _ _ _
  refine Calls.spliced_cons (wpAny_JoinedStr ?_)
  refine joins_ok (s := ⟨h3, sg, sd, 0, sos⟩) hkind F3.ns (v1 :: v2 :: vr) Str.empty _ _ hparts ?_ ?_ ?_
  · intro f pp qq hm
    have hf := hpfs f pp qq hm
    exact ⟨(hfs f hf).1, (hfs f hf).2.1, by rw [hmF f hf]; exact hvF f hf⟩
  · have : (Str.empty : Str).length = 0 := rfl
    omega
  intro out tk' hout
  refine ⟨hout, ?_⟩
  refine Calls.spliced_nil ⟨kxs_at N3 List.mem_cons_self, ?_⟩
  refine call_mw ((G.kin.keeps F3.keep) _ _ hC) (N3 (x, excO C t0) (by simp)).1 (N3 (u, kxs_mw "ValueError.__init__" x) (by simp)).1 (by simp [sizeLine_eq]) (fun h4 t1 k4 e4 => ?_)
  show PySem.wpAt _ _ _ (execs (sts ps) (ksEnv (xn ++ ".__init__") scope L fI (.ref cda) cc)) _ _ _
  refine wpAt_of_wpAny ?_
  obtain ⟨oL, es, ep, hoL, rL⟩ := F3.ns
  have hLx : L ≠ x := by rw [hLe]; exact Nat.ne_of_gt (Heap.lt_size hx)
  have hn4 : h4.Ns L mm := ⟨oL, es, ep, k4 _ _ hLx hoL, rL⟩
  have kb4 : ∀ b o, hb.get? b = some o → h4.get? b = some o := fun b o e => k4 b o (fun z => by rw [z, G.no] at e; cases e) (F3.keep b o e)
  have X4 : K.In h4 := G.kin.keeps kb4
  have sz4 : hb.objs.size ≤ h4.objs.size := Nat.le_trans F3.above (Nat.le_of_lt (Heap.lt_size (k4 _ _ hLx hoL)))
  cases ps with
  | nil => exact absurd hps.symm hne
  | cons p ps' =>
    obtain ⟨f, q1, q2, q3, q4⟩ := p
    have hpf : f :: ps'.map (·.1) = fs := hps
    have hfm : f ∈ fs := by rw [← hpf]; exact List.mem_cons_self
    obtain ⟨v, hv, hsv⟩ := hvF f hfm
    have hmf : mm f = some v := (hmF f hfm).trans hv
    show wpAny _ _ (execs (.Assign [.Attribute (.Name "self" q1) f q2] (.Name f q3) q4 :: sts ps') _) _ _ _
    refine wpAny_execs_cons (plainObj_wpAny_Assign_Attribute (wpAny_Name (wpAny_loadName_local hkind (hfs f hfm).1 hn4 hmf ?_) (hfs f hfm).2.1))
    refine wpAny_Name (wpAny_loadName_local hkind hkS hn4 hmS ?_) (by decide)
    refine set_plain X4 (ox := excO C t1) (od := none) ⟨e4, rfl, rfl, trivial⟩ T.sa ?_
    refine exc_osa X4 e4 hcl (show refsVE (.ref C :: bm) = true from hbm) rfl (T.noF f hfm) (fun h5 tk5 dx k5 dn dne hx5 hn5 => ?_)
    show wpAny _ _ (execs (sts ps') _) _ _ _
    have kb5 : ∀ b o, hb.get? b = some o → h5.get? b = some o := fun b o e => k5 b o (fun z => by rw [z, G.no] at e; cases e) (kb4 b o e)
    have nbd : ∀ b o, hb.get? b = some o → b ≠ dx := fun b o e => Nat.ne_of_lt (Nat.lt_of_lt_of_le (Heap.lt_size e) (Nat.le_trans sz4 dn))
    have hKd : K.lookup dx = none := by
      cases e : K.lookup dx with
      | none => rfl
      | some o => exact absurd rfl (nbd dx o (G.kin _ _ e))
    have hLd : L ≠ dx := Nat.ne_of_lt (Nat.lt_of_lt_of_le (Heap.lt_size (k4 _ _ hLx hoL)) dn)
    have hlf : ps'.length + 1 = fs.length := by rw [← hpf]; simp
    refine wpAny_mono (stores_old (env := ksEnv (xn ++ ".__init__") scope L fI (.ref cda) cc) T hkind hkS hmS dne ps' h5 (fun y => if y = f then some v else none) [f] (fun s' => R (.ok (.ret .none)) s') sg sd tk5 sos (fun p hp => ?_) (G.kin.keeps kb5) hKd hLd ⟨oL, es, ep, k5 _ _ hLx (k4 _ _ hLx hoL), rL⟩ hx5 hn5 (fun y hy => ?_) (by simp only [List.length_cons, List.length_nil]; omega) (fun h6 tk6 k6 hn6 => ?_)) (fun fl s' z => by obtain ⟨e, r⟩ := z; subst e; exact r) fun _ _ z => z
    · have hpm : p.1 ∈ fs := by rw [← hpf]; exact List.mem_cons_of_mem _ (List.mem_map_of_mem hp)
      obtain ⟨v', hv', _⟩ := hvF _ hpm
      exact ⟨hpm, (hfs _ hpm).1, (hfs _ hpm).2.1, v', (hmF _ hpm).trans hv'⟩
    · by_cases e : y = f
      · rw [e]; exact List.mem_singleton.mpr rfl
      · exact absurd (if_neg e) hy
    · refine hq h6 tk6 dx t1 ⟨fun b o e => k6 b o (nbd b o e) (kb5 b o e), k6 _ _ dne.symm hx5, Nat.le_trans sz4 dn, dne, ?_⟩
      have ee : acc mm (List.map (·.1) ps') (fun y => if y = f then some v else none) = fun y => if y ∈ fs then (fs.zip us).lookup y else none := by
        funext y
        rw [acc_last]
        by_cases h1 : y ∈ List.map (·.1) ps'
        · have h2 : y ∈ fs := by rw [← hpf]; exact List.mem_cons_of_mem _ h1
          rw [if_pos h1, if_pos h2, hmF y h2]
        · rw [if_neg h1]
          by_cases h3 : y = f
          · rw [if_pos h3, h3, if_pos hfm, hv]
          · have h2 : ¬ y ∈ fs := by
              rw [← hpf]
              intro z
              rcases List.mem_cons.mp z with z | z
              · exact h3 z
              · exact h1 z
            rw [if_neg h3, if_neg h2]
      rw [← ee]
      exact hn6
end
end NvX
set_option Elab.async false
set_option linter.all false
set_option maxRecDepth 100000
set_option maxHeartbeats 4000000
namespace NvX
open PySem PySem.W PySem.Calls PyProof.Rows PySem.HandSPX
/-- a made exception -/
structure Made (m : Str → Option Value) (fs : List Str) (h h' : Heap) (e C d : Addr) : Prop where
  keep : ∀ b o, h.get? b = some o → h'.get? b = some o
  new : h.objs.size ≤ e
  obj : ∃ oe vs, h'.get? e = some oe ∧ oe.cls = .ref C ∧ oe.dict = some d ∧ oe.data = .fields vs ∧ vs[1]? = some .none
  dbig : h.objs.size ≤ d
  dne : d ≠ e
  ns : h'.Ns1 d fun y => if y ∈ fs then m y else none
section
variable {prog : Program} {w : World} {A : Around} {E : Value → Shared → Prop} {R : Result → Shared → Prop} {K : Frag} {mg : Str → Option Value} {C fI : Addr} {xn : Str} {fs : List Str} {s : Shared}
theorem made (T : Txt prog K mg xn C fI fs) (X : K.In s.heap) (hg : s.heap.Ns mainGlobals mg) (hb : ∃ mb, s.heap.Ns builtinsNs mb ∧ ∀ x : Str, x ≠ "__name__" → mb x = bootBuiltins x) (hlim : s.heap.NoLimit)
    {us : List Value} (hl : us.length = fs.length) (hs : ∀ u ∈ us, Small u) (hroom : A.depth + 1 < recursionLimit)
    (hq : ∀ h' tk e d, Made (fun y => (fs.zip us).lookup y) fs s.heap h' e C d → R (.ok (.ret (.ref e))) { s with heap := h', toks := tk }) :
    codeAny (model prog w) A (.call (.ref C) ⟨us, []⟩) R s := by
  obtain ⟨nm, q, N, bs, bm, sn, sub, ab, col, dd, k0, k1, k2, k3, k5, hC, hbm⟩ := T.cls
  have hf5 : fs.length ≤ 5 := by
    obtain ⟨oc, od, osl, params, scope, kV, doc, pm, ct, an, cda, cc, p0, p1, p2, p3, p4, pj, v1, v2, vr, ps, pa, prs, hfn, hcd, _, _, hpar, hprs, hps, hparts, hplen, hpfs, hfs, hnd, hne, hf5, _⟩ := T.fn
    exact hf5
  obtain ⟨hp, g, dr, tk, os⟩ := s
  have k : ∀ b o, hp.get? b = some o → ((hp.push (kdv_tup us)).push (excO C hp.objs.size)).get? b = some o := fun b o e => Heap.get?_push_of_some _ (Heap.get?_push_of_some _ e)
  have hget : ((hp.push (kdv_tup us)).push (excO C hp.objs.size)).get? (hp.objs.size + 1) = some (excO C hp.objs.size) := by heap_get
  refine call_own F.excBase_ValueError (fun X => refsVE_contains X bm hbm) (X _ _ hC) (looks_findIn X T.iC) (fun self => bind_fn X self T.tC) (by rw [sizeLine_eq]; omega) ?_
  have G : Ground K mg hp ((hp.push (kdv_tup us)).push (excO C hp.objs.size)) (hp.objs.size + 1) :=
    ⟨X, hg, hb, k, by rw [Heap.size_push, Heap.size_push]; omega, Heap.get?_none_of_le (Nat.le_succ _), hlim.keeps k⟩
  refine init_run (s := ⟨(hp.push (kdv_tup us)).push (excO C hp.objs.size), g, dr, tk, os⟩) T G hget hl hs ?_ fun h' tk' dx t1 M => ?_
  · show A.depth + 1 < recursionLimit
    exact hroom
  · exact ⟨rfl, hq h' tk' (hp.objs.size + 1) dx ⟨M.keep, Nat.le_succ _, ⟨_, _, M.obj, rfl, rfl, rfl, rfl⟩, M.dbig, M.dne, M.ns⟩⟩
end
end NvX
namespace L2
open PySem PySem.Spec PyProof.Rows
def SmallV (v : V) : Prop := (∃ x : Str, v = .str x ∧ x.length ≤ 2000) ∨ ∃ i : Int, v = .int i ∧ i.natAbs.log2 < 1920
theorem SmallV.rel {v : V} {u : Value} (h : SmallV v) (r : RelV v u) : NvX.Small u := by
  rcases h with ⟨x, rfl, h⟩ | ⟨i, rfl, h⟩
  · obtain ⟨t, rfl⟩ := r
    exact .inl ⟨x, t, rfl, h⟩
  · obtain ⟨t, rfl⟩ := r
    exact .inr ⟨i, t, rfl, h⟩
theorem small_all : ∀ {vs : List V} {us : List Value}, Vals vs us → (∀ v ∈ vs, SmallV v) → ∀ u ∈ us, NvX.Small u
  | _, _, .nil, _, u, h => nomatch h
  | _, _, .cons r t, hs, u, h => by
    rcases List.mem_cons.mp h with e | h
    · rw [e]; exact (hs _ List.mem_cons_self).rel r
    · exact small_all t (fun v hv => hs v (List.mem_cons_of_mem _ hv)) u h
theorem relO_zip : ∀ {fs : List Str} {vs : List V} {us : List Value}, Vals vs us → fs.length = vs.length → ∀ f, RelO ((fs.zip vs).lookup f) (if f ∈ fs then (fs.zip us).lookup f else none)
  | [], _, _, _, _, f => by simp [RelO]
  | a :: fs, _, _, .nil, h, f => by simp at h
  | a :: fs, v :: vs, u :: us, .cons r t, h, f => by
    have ih := relO_zip (fs := fs) t (by simpa using h) f
    show RelO (match f == a with | true => some v | false => (fs.zip vs).lookup f) (if f ∈ a :: fs then (match f == a with | true => some u | false => (fs.zip us).lookup f) else none)
    cases e : f == a with
    | true =>
      have ef : f = a := by simpa using e
      rw [if_pos (by rw [ef]; exact List.mem_cons_self)]
      exact r
    | false =>
      have ef : f ≠ a := by simpa using e
      by_cases hm : f ∈ fs
      · rw [if_pos (List.mem_cons_of_mem _ hm)]
        rw [if_pos hm] at ih
        exact ih
      · rw [if_neg (by intro z; rcases List.mem_cons.mp z with z | z; exact ef z; exact hm z)]
        rw [if_neg hm] at ih
        exact ih
section
variable {X : Cx} {C fI : Addr} {xn : Str} {fs : List Str}
/-- X(e, ..) -/
def tMkX (C : Addr) (fs : List Str) (ta : TA) : St → Hp → XK → Prop := fun σ H Q => ta σ H fun vs H1 => vs.length = fs.length ∧ (∀ v ∈ vs, SmallV v) ∧ ∀ d, H1 d = none → Q (.ref C) (some d) (upd H1 d (.xd (fs.zip vs)))
theorem pmk_x {e : Expr} {es : List Expr} {ta : TA} {p pos : Pos} {k : Nat} (T : NvX.Txt X.prog X.K X.mg xn C fI fs) (hr : Room k X.A) (ha : PA X (e :: es) ta) (hg : Gl X xn := by rfl)
    (hdb : (xn == ("__debug__" : Str)) = false := by decide)
    (he : starEach (e :: es) X.env = (false, eval e X.env) :: starEach es X.env := by rfl) (hpl : (backTo pos (starEach es X.env)).any (·.1) = false := by rfl) :
    PMk X (.Call (.Name xn p) (e :: es) [] pos) (tMkX C fs ta) := by
  intro pins s σ H Q I h
  refine wpAny_Call_Name_kw (ld_glob I hg T.gC ?_ hdb)
  refine PySem.W.callWith_K (h₀ := X.base) I.ok.mod.kin T.kC (thn (ha.run pos pins s σ H _ I h) fun us s1 hh => ?_) he hpl
  obtain ⟨vs, H1, I1, r1, hl, hs, q1⟩ := hh
  refine ⟨I1.kIn, ?_⟩
  show wpAny _ _ (call (.ref C) us) _ _ _
  have hlim := I1.nolimit
  have hgl := I1.mod.glob.keeps I1.bk
  obtain ⟨mb, hb1, hb2⟩ := I1.mod.blt
  have hbl := hb1.keeps I1.bk
  have hlu : us.length = fs.length := by rw [← Paired.length r1]; exact hl
  obtain ⟨hp, g, dr, tk, os⟩ := s1
  refine wpAny_call (NvX.made T I1.kIn hgl ⟨mb, hbl, hb2⟩ hlim hlu (small_all r1 hs) (by have := hr.dp; omega) fun h' tk' e d M => ?_)
  show MkP X pins σ Q (.ref e) ⟨h', g, dr, tk', os⟩
  obtain ⟨oe, fv, hoe, hc, hd, hdat, h1⟩ := M.obj
  have hns := M.ns
  obtain ⟨G', g1, g2⟩ := restrict h' fun b => decide (b ≠ e)
  have gk : ∀ b, b ≠ e → G'.get? b = h'.get? b := fun b hb => g1 b (decide_eq_true hb)
  have ge : G'.get? e = none := g2 e (by simp)
  have old : ∀ b o, hp.get? b = some o → G'.get? b = some o := fun b o q => (gk b (Nat.ne_of_lt (Nat.lt_of_lt_of_le (Heap.lt_size q) M.new))).trans (M.keep b o q)
  have ob : ObjOk X.prog X.w (upd H1 d (.xd (fs.zip vs))) G' d (.xd (fs.zip vs)) :=
    ⟨_, hns.at (fun o q => (gk d M.dne).trans q), fun f => relO_zip r1 hl.symm f⟩
  have J : Inv X pins σ (upd H1 d (.xd (fs.zip vs))) ⟨G', g, dr, tk', os⟩ := I1.laid (t' := tk') old M.dbig ob
  refine ⟨e, oe, fv, ⟨G', g, dr, tk', os⟩, _, .ref C, some d, rfl, J, fun b o q => ?_, ge, hoe, ⟨hc, hd⟩, hdat, h1, ?_, rfl, I1.bare, raises_own T.exC T.tyC, q1 d (I1.hok.fresh M.dbig)⟩
  · by_cases hb : b = e
    · have q' : G'.get? b = some o := q
      rw [hb, ge] at q'; cases q'
    · exact (gk b hb).symm.trans q
  · rw [upd_ne (Ne.symm M.dne)]
    exact I1.hok.fresh M.new
/-- raise X(e, ..) -/
def tRaiseX (C : Addr) (fs : List Str) (W : WX) (ta : TA) : TS := fun _ σ H => tMkX C fs ta σ H fun cls d H' => W cls d σ H'
theorem ps_raiseX {e : Expr} {es : List Expr} {ta : TA} {W : WX} {p pos pos2 : Pos} {k : Nat} (hc : X.calm = true) (T : NvX.Txt X.prog X.K X.mg xn C fI fs) (hr : Room k X.A) (tk : Takes X W) (ha : PA X (e :: es) ta) (hg : Gl X xn := by rfl)
    (hdb : (xn == ("__debug__" : Str)) = false := by decide)
    (he : starEach (e :: es) X.env = (false, eval e X.env) :: starEach es X.env := by rfl) (hpl : (backTo pos (starEach es X.env)).any (·.1) = false := by rfl) :
    PS X (.Raise (some (.Call (.Name xn p) (e :: es) [] pos)) none pos2) (tRaiseX C fs W ta) := ps_raise hc tk (pmk_x T hr ha hg hdb he hpl)
end
end L2
set_option Elab.async false
set_option linter.all false
set_option maxRecDepth 100000
set_option maxHeartbeats 4000000
/-! try .. except X as n, the exception kept behind the suite: it is tracked from the catch on. isinstance and fields of such. -/
namespace L2
open PySem PySem.Spec PyProof.Rows
/-- a caught exception of the class cls, its own dict at d -/
def ExT (cls : Value) (d : Option Addr) (a : Addr) : HO := .ext fun h => ∃ (oe : Obj) (vs : Array Value), h.get? a = some oe ∧ Zc cls d oe ∧ oe.data = .fields vs
theorem exT_at {P : Program} {w : World} {H : Hp} {h : Heap} {a b : Addr} {cls : Value} {d : Option Addr} (hok : HOk P w H h) (e : H b = some (ExT cls d a)) : ∃ (oe : Obj) (vs : Array Value), h.get? a = some oe ∧ Zc cls d oe ∧ oe.data = .fields vs := by
  obtain ⟨z, _, _⟩ := hok b _ e
  exact z
section
variable {X : Cx} {pins : List (Addr × Obj)} {σ : St} {H : Hp} {s : Shared}
theorem Inv.track {a : Addr} {oe : Obj} {vs : Array Value} {cls : Value} {d : Option Addr} (I : Inv X pins σ H s) (ha : s.heap.get? a = some oe) (hz : Zc cls d oe) (hd : oe.data = .fields vs) (na : H a = none)
    (n0 : X.s_0.heap.get? a = none) (nL : a ≠ X.env.locals) (nC : ∀ x c, X.env.cells.lookup x = some c → c ≠ a) (nP : ∀ p ∈ X.pn ++ pins, p.1 ≠ a) : Inv X pins σ (upd H a (ExT cls d a)) s := by
  have ne : ∀ {b : Addr} {u : HO}, H b = some u → b ≠ a := fun {b u} q z => by rw [z, na] at q; cases q
  refine ⟨I.ok, I.os, I.bare, ⟨I.base.keep, I.base.slot, fun b o q n hx => ?_, I.base.there, fun b xs q => ?_, fun b o u q => ?_, fun b ps q => ?_⟩, I.loc, I.cell, ?_, fun x c e => ?_, fun p hp => ?_, fun b u e => ?_, I.len⟩
  · rw [upd_ne (fun z => by rw [z, n0] at q; cases q)]
    exact I.base.free b o q n hx
  · have q' := I.base.tups b xs q
    rw [upd_ne (ne q')]; exact q'
  · have q' := I.base.frzs b o u q
    rw [upd_ne (ne q')]; exact q'
  · obtain ⟨m, q'⟩ := I.base.tbls b ps q
    exact ⟨m, by rw [upd_ne (ne q')]; exact q'⟩
  · rw [upd_ne nL.symm]; exact I.free
  · rw [upd_ne (nC x c e)]; exact I.freeC x c e
  · obtain ⟨h1, h2, h3, h4, h5⟩ := I.pin p hp
    exact ⟨h1, by rw [upd_ne (nP p hp)]; exact h2, h3, h4, h5⟩
  · by_cases hb : b = a
    · subst hb
      rw [upd_same] at e
      cases e
      exact ⟨⟨oe, vs, ha, hz, hd⟩, ⟨oe, ha⟩, fun h1 h2 ⟨o, v, q, r⟩ k => ⟨o, v, k o q, r⟩⟩
    · rw [upd_ne hb] at e
      exact (I.hok b u e).stay (fun c v _ q => q) (fun c q => by rw [upd_ne (ne q)]; exact q) fun c xs q => by rw [upd_ne (ne q)]; exact q
theorem Inv.suiteT (I : Inv X pins σ H s) (a : Addr) : Inv (X.suite a (X.pn ++ pins)) [] σ H s :=
  ⟨I.ok.suite _ _, I.os, I.bare, I.base, I.loc, I.cell, I.free, I.freeC, fun p hp => I.pin p (by rw [List.append_nil] at hp; exact hp), I.hok, I.len⟩
theorem Inv.unsuiteT {a : Addr} {pn' : List (Addr × Obj)} (I : Inv (X.suite a (X.pn ++ pins)) pn' σ H s) (ok : X.Ok) : Inv X pins σ H s :=
  ⟨ok, I.os, I.bare, I.base, I.loc, I.cell, I.free, I.freeC, fun p hp => I.pin p (List.mem_append_left _ hp), I.hok, I.len⟩
end
/-- what the clause 'except x as n' wishes of an exception of the body: slot i is n's; the exception is tracked -/
def wAx (K : PySem.W.Frag) (c : Value) (i : Nat) (ts : TS) (Wout : WX) (D : Ends) : WX := fun cls d σ H =>
  ∃ b, PySem.W.exmOne K cls c = some b ∧ (b = true → ∀ a, H a = none → ts { nx := fun σ' H' => D.nx (σ'.set i none) H', rt := D.rt, bk := fun σ' H' => D.bk (σ'.set i none) H', ct := fun σ' H' => D.ct (σ'.set i none) H' } (σ.set i (some (.ref a))) (upd H a (ExT cls d a))) ∧
    (b = false → Wout cls d σ H)
section
variable {X : Cx} {x n : Str} {c : Value} {i : Nat} {body suite : List Stmt} {b₀ : Stmt} {np pos pos' : Pos} {tb : WX → TS} {ts : TS} {Wout : WX}
theorem ps_try_ax (hs : X.stack = X.env :: X.outer) (hf : X.env.frame = some X.env.locals) (hex : X.ex = []) (hN : X.N.Nodup) (hi : X.N[i]? = some n) (hln : X.env.kindOf n = some .local) (hc : Names X x c) (tk : Takes X Wout)
    (hb : ∀ (W : WX) (pn : List (Addr × Obj)) (xe : Value → Shared → Prop), Takes (X.tr pn xe) W → PassesOwn (model X.prog X.w) X.A X.env xe → PSs (X.tr pn xe) body (tb W))
    (hsu : ∀ (a : Addr) (pn : List (Addr × Obj)), PSs (X.suite a pn) (b₀ :: suite) ts) :
    PS X (.Try body [.ExceptHandler (some (.Name x np)) (some n) (b₀ :: suite) pos'] [] [] pos) (fun D σ H => tb (wAx X.K c i ts Wout D) D σ H) := by
  refine ⟨fun pins s σ H D I h => ?_⟩
  have ok := I.ok
  have hfr : X.A.frames = some (X.env :: X.outer) := by rw [ok.frames, hs]
  have hloc : Loc X.env.scope n := .inl hln
  refine wpAny_Try_except ?_
  refine wpAny_mono ((hb (wAx X.K c i ts Wout D) (X.pn ++ pins) (fun e s₁ => wpAny (model X.prog X.w) X.A (noteFrame e X.env) (fun _ s₂ => wpAny (model X.prog X.w) X.A (setFlight e none) (fun _ s₃ =>
    wpAny (model X.prog X.w) X.A (handleBy e X.env [.ExceptHandler (some (.Name x np)) (some n) (b₀ :: suite) pos']) (SP X pins D) X.xe s₃) X.xe s₂) X.xe s₁) (fun u s' xx => ?_) PassesOwn.looking).run [] s σ H D (I.toTry _) h) (fun f s1 hsp => ?_) (fun e s1 he => he)
  · obtain ⟨a, B, sI, pins', σ', H', cls, d, rfl, J', nb, up, sky, na, os, ag, b, hb1, hyes, hno⟩ := xx
    have J : Inv X pins σ' H' sI := J'.ofTry ok
    have sky' : Sky B (X.env :: X.outer) a (Zc cls d) X.env.locals s'.heap := by rw [← hs]; exact sky
    show wpAny (model X.prog X.w) X.A (noteFrame (.ref a) X.env) _ _ _
    refine Sky.land Zc.steady hfr hf sky' fun h3 fl3 up3 => ?_
    have J3 : Inv X pins σ' H' { s' with heap := h3 } := J.landed nb fl3.1 (up.trans up3) os ag
    obtain ⟨oe3, vs3, he3, hz3, hd3⟩ := fl3.there
    have notFr : ∀ {h : Heap} {o : Obj} {vs : Array Value}, h.FunFrames B (X.env :: X.outer) → h.get? a = some o → o.data = .fields vs → a ∉ frs (X.env :: X.outer) := fun {h o vs} ff e dd hm => by
      obtain ⟨_, o', e', hnf⟩ := ff.mem hm
      rw [e] at e'; cases e'
      exact hnf _ dd
    have nfr := notFr fl3.2.2.1 he3 hd3
    have nL : a ≠ X.env.locals := fun z => nfr (List.mem_filterMap.mpr ⟨X.env, List.mem_cons_self, by rw [hf, z]⟩)
    have nF : a ∉ X.fs := fun hm => by
      obtain ⟨e, he, q⟩ := List.mem_filterMap.mp hm
      exact nfr (List.mem_filterMap.mpr ⟨e, List.mem_cons_of_mem _ he, q⟩)
    have nI : sI.heap.get? a = none := by
      cases q : sI.heap.get? a with
      | none => rfl
      | some o =>
        have z := nb a o q (by rw [hs]; exact nfr)
        rw [fl3.2.1] at z; cases z
    have n0 : X.s_0.heap.get? a = none := by
      cases q : X.s_0.heap.get? a with
      | none => rfl
      | some o =>
        obtain ⟨o', z⟩ := J.base.there a o q (by rw [hex]; exact fun z => nomatch z)
        rw [nI] at z; cases z
    have nC : ∀ x c, X.env.cells.lookup x = some c → c ≠ a := fun x c e z => by
      obtain ⟨v, o, ho, _⟩ := J.cell x c e
      rw [z, nI] at ho; cases ho
    have nP : ∀ p ∈ X.pn ++ pins, p.1 ≠ a := fun p hp z => by
      obtain ⟨h1, _⟩ := J.pin p hp
      rw [z, nI] at h1; cases h1
    have S3 := J3.suite he3 hd3 na nL nF
    refine wpAny_handleBy_cons (codeAny_handlers_test ?_) (by intro q; cases q)
    have LT : PySem.W.Looks (model X.prog X.w) h3 (typeOf (.ref a)) cls := fun A Q E s k q => wpAny_typeOf_ref (k _ _ he3) (by rw [hz3.1]; exact q)
    have LM := PySem.W.exm_one (M := model X.prog X.w) (J3.kIn) LT hb1
    have test : ∀ {Q : Value → Shared → Prop} {E : Value → Shared → Prop}, Q c { s' with heap := h3 } → wpAny (model X.prog X.w) (X.A.mark (some (.ref a))) (eval (.Name x np) X.env) Q E { s' with heap := h3 } := fun {Q E} q => by
      obtain ⟨hg, hdbg, hm | ⟨hm, hv, hnn⟩⟩ := hc
      · exact ld_glob (X := X.suite a ((a, oe3) :: (X.pn ++ pins))) S3 hg hm q hdbg
      · exact ld_blt (X := X.suite a ((a, oe3) :: (X.pn ++ pins))) S3 hg hm hv q hnn hdbg
    refine test (LM.here ?_)
    cases b with
    | true =>
      refine codeAny_handlers_suite_as ?_
      refine HandSPX.lands_againZ fl3 fun h4 fl4 up4 => ?_
      have J4 : Inv X pins σ' H' { s' with heap := h4 } := J.landed nb fl4.1 ((up.trans up3).trans up4) os ag
      obtain ⟨oe4, vs4, he4, hz4, hd4⟩ := fl4.there
      have T4 := J4.track he4 hz4 hd4 na n0 nL nC nP
      have S4 := T4.suiteT a
      refine store_ok (X := X.suite a (X.pn ++ pins)) (v := .ref a) S4 hN hi hloc rfl (fun s5 S5 => ?_) (.inr hln)
      refine wpAny_mono ((hsu a (X.pn ++ pins)).run [] s5 _ _ _ S5 (hyes rfl a na)) (fun f s6 hsp => ?_) (fun _ _ z => False.elim z)
      have end_ : ∀ {σ6 : St} {H6 : Hp} {Q : Shared → Prop}, Inv (X.suite a (X.pn ++ pins)) [] σ6 H6 s6 → (∀ s7, Inv X pins (σ6.set i none) H6 s7 → Q s7) →
          wpAny (model X.prog X.w) X.A (do bindName X.env n .none; unbindBehindTheSuite X.env n pos') (fun _ s7 => Q s7) X.xe s6 := fun {σ6 H6 Q} S6 hq => gone_ok (S6.unsuiteT ok) hN hi hln hq
      cases f with
      | next =>
        obtain ⟨σ6, H6, S6, q6⟩ := hsp
        exact end_ S6 fun s7 J7 => ⟨_, _, J7, q6⟩
      | brk =>
        obtain ⟨σ6, H6, S6, q6⟩ := hsp
        exact end_ S6 fun s7 J7 => ⟨_, _, J7, q6⟩
      | cont =>
        obtain ⟨σ6, H6, S6, q6⟩ := hsp
        exact end_ S6 fun s7 J7 => ⟨_, _, J7, q6⟩
      | ret u =>
        obtain ⟨v6, σ6, H6, S6, r6, q6⟩ := hsp
        exact end_ S6 fun s7 J7 => ⟨_, _, _, J7, r6, q6⟩
    | false =>
      show wpAny _ X.A (handleBy (.ref a) X.env []) _ _ _
      refine wpAny_handleBy_nil ?_
      obtain ⟨k1, k2, k3, oe, vs, T, oT, ts', he, hz, hd, h1, hr⟩ := id fl3
      unfold PySem.passOn
      refine wpAny_bind (wpAny_field he hd h1 ?_)
      rw [if_neg (show ¬ ((Value.ref T == Value.none) = true) from by simp)]
      have fin : wpAny (model X.prog X.w) X.A (setFlight (.ref a) X.env.frame) (fun _ s4 => wpAny (model X.prog X.w) X.A (throw (.ref a) : Sem Flow) (SP X pins D) X.xe s4) X.xe { s' with heap := h3 } := by
        rw [hf]
        refine HandSPX.setFlight_upZ fl3 fun h4 hh4 up4 => wpAny_throw (tk _ _ ?_)
        exact ⟨a, B, sI, pins, σ', H', cls, d, rfl, J, nb, (up.trans up3).trans up4, .inr (.inr (by rw [hs]; exact hh4)), na, os, ag, hno rfl⟩
      first
        | exact wpAny_bind (wpAny_pure (wpAny_bind fin))
        | exact wpAny_bind fin
  · cases f with
    | next =>
      obtain ⟨σ', H', J', q⟩ := hsp
      exact wpAny_execs_nil ⟨σ', H', J'.ofTry ok, q⟩
    | brk =>
      obtain ⟨σ', H', J', q⟩ := hsp
      exact ⟨σ', H', J'.ofTry ok, q⟩
    | cont =>
      obtain ⟨σ', H', J', q⟩ := hsp
      exact ⟨σ', H', J'.ofTry ok, q⟩
    | ret u =>
      obtain ⟨v, σ', H', J', r, q⟩ := hsp
      exact ⟨v, σ', H', J'.ofTry ok, r, q⟩
/-- e.f, e a tracked exception of the class C -/
def tXt (K : PySem.W.Frag) (f : Str) (te : TE) : TE := fun σ H Q => te σ H fun x H1 => ∃ (a C dd : Addr) (fs : List (Str × V)) (v : V), x = .ref a ∧ XfC K C ∧ PySem.W.findIn K (.ref C) f = some none ∧ H1 a = some (ExT (.ref C) (some dd) a) ∧ H1 dd = some (.xd fs) ∧ fs.lookup f = some v ∧ Q v H1
theorem pe_xt {e : Expr} {te : TE} {pos : Pos} {f : Str} (he : PE X e te) (hb : attributeBase e f X.env (eval e X.env) = eval e X.env := by rfl) : PE X (.Attribute e f pos) (tXt X.K f te) := by
  refine ⟨fun pins s σ H Q I h => ?_⟩
  refine attr_of hb (thn (he.run pins s σ H _ I h) fun u s1 hh => ?_)
  obtain ⟨x, H1, I1, rx, a, C, dd, fs, v, ex, T, hno, ea, ed, l, q⟩ := hh
  subst ex
  obtain rfl : u = Value.ref a := rx
  obtain ⟨oe, vs, ha, hz, hd⟩ := exT_at I1.hok ea
  have hx : ObjOk X.prog X.w H1 s1.heap dd (.xd fs) := I1.hok dd _ ed
  obtain ⟨mA, hns, hr⟩ := hx
  obtain ⟨od, ho, hl⟩ := lookIn_ns hns
  obtain ⟨u, hu, ru⟩ := RelO.some_of (v := v) (o := mA f) (by rw [← l]; exact hr f)
  have J : PySem.W.InstAt s1.heap a oe C (some od) := ⟨ha, hz.1, by unfold PySem.W.notCls; rw [hd] <;> rfl, by rw [hz.2]; exact ho⟩
  exact HandSPX.exc_get I1.kIn J T.ga T.gg T.exC (PySem.W.findObj_own T.hdC hno rfl (by rw [hl, hu])) (handed_of ru) ⟨v, H1, I1.tok _, ru, q⟩
end
end L2
set_option Elab.async false
set_option linter.all false
set_option maxRecDepth 100000
set_option maxHeartbeats 4000000
/-! isinstance of a tracked exception. -/
namespace PySem.W
open PySem PySem.Spec PySem.Calls PyProof.Rows
section
variable {prog : Program} {w : World} {A : Around} {E : Value → Shared → Prop} {s : Shared} {K : Frag} {x D : Addr} {ox : Obj} {od : Option Obj}
theorem nv_findObj {C : Addr} {name : Str} {a g : Value} (hc : (clsIn K C).isSome = true) (ha : findIn K (.ref C) name = some (some a)) (hg : specialIn K a "__get__" = some (some g)) (ht : takesIn K a = some true) : findObj K C od name = some (.bind g a) := by
  obtain ⟨cd, hc⟩ := Option.isSome_iff_exists.mp hc
  unfold findObj
  rw [hc, Option.bind_some, ha, Option.bind_some]
  simp [hg, ht]
theorem nv_class {Q : Option Value → Shared → Prop} (hga : findIn K (.ref D) "__getattribute__" = some (some (.builtin "BaseException.__getattribute__"))) (hgt : findIn K (.ref D) "__getattr__" = some none) (hsub : subIn K (.ref D) (.type "BaseException") = some true)
    (hdct : hasDictIn K D = true) (ha : findIn K (.ref D) "__class__" = some (some (.builtin "object.__class__")))
    (hn : specialIn K (.builtin "object.__class__") "__get__" = some (some (.builtin "getset_descriptor.__get__"))) (htk : takesIn K (.builtin "object.__class__") = some true) (hm : mroIn K D (.type "object") = some true)
    (X : K.In s.heap) (I : InstAt s.heap x ox D od) (h : Q (some (.ref D)) { s with toks := s.toks + 1 }) : wpAny (model prog w) A (getAttr? (.ref x) "__class__") Q E s := by
  have hf : findObj K D od "__class__" = some (.bind (.builtin "getset_descriptor.__get__") (.builtin "object.__class__")) := nv_findObj (by obtain ⟨cd, hc, _⟩ := any_some hdct; rw [hc]; rfl) ha hn htk
  obtain ⟨hp, g, d, t, os⟩ := s
  have L0 := I.type (M := model prog w)
  have L1 := looks_findIn (M := model prog w) X hga
  have L2 := looks_findIn (M := model prog w) X hgt
  have L3 := looks_find (M := model prog w) X I hf
  have sub : Looks (model prog w) hp (isInstance (.ref x) (.type "BaseException")) true := L0.andThen (looks_subIn X hsub)
  have hx0 : (false && onTheHeap (Value.builtin "BaseException.__getattribute__")) = false := rfl
  have hx2 : (Value.builtin "BaseException.__getattribute__" == Value.builtin "object.__getattribute__") = false := by decide +kernel
  have hx1 : (onTheHeap (Value.ref D) && Value.builtin "BaseException.__getattribute__" == Value.builtin "object.__getattribute__") = false := by rw [hx2]; rfl
  unfold getAttr? getAttrBy? getAttrBy
  refine wpAny_bind (wpAny_mkText (wpAny_bind (wpAny_attempt (wpAny_holding (wpAny_bind (L0.at (wpAny_bind (L1.at ?_))))))))
  show wpAny _ _ (if (onTheHeap (Value.ref D) && Value.builtin "BaseException.__getattribute__" == Value.builtin "object.__getattribute__") = true then _ else _) _ _ _
  rw [hx1, if_neg Bool.false_ne_true]
  unfold getAttrByItsOwn hookBefore
  refine wpAny_bind ?_
  rw [if_pos (show onTheHeap (Value.ref D) = true from rfl)]
  refine L2.at ?_
  refine wpAny_bind (wpAny_attempt (wpAny_holding ?_))
  unfold callGetattribute
  rw [hx0, if_neg Bool.false_ne_true]
  unfold boundAndCalled
  rw [PySem.F.excAttr_ValueError.ga.bind (.ref x)]
  refine wpAny_bind (wpAny_pure ?_)
  show wpAny _ _ (call (.builtin "BaseException.__getattribute__") [.ref x, .str "__class__" t]) _ _ _
  refine wpAny_call (codeAny_call_builtin PySem.F.excAttr_ValueError.ga.plain PySem.F.entry_bexc_ga ?_)
  refine @check_slot (model prog w) _ _ ⟨hp, g, d, t + 1, os⟩ "BaseException.__getattribute__" "BaseException" "__getattribute__" (.ref x) [.str "__class__" t] [] _ (by decide +kernel) (by decide +kernel) sub (PySem.F.args_bexc_ga (.ref x) (.str "__class__" t)) ?_
  unfold Builtin.«object.__getattribute__»
  refine wpAny_bind (wpAny_of_eq (a := ((Value.ref x : Value), [Value.str "__class__" t])) (by first | rfl | (simp only [slotArgs]; rfl)) ?_)
  refine wpAny_bind (wpAny_pure (wpAny_bind (L0.at (wpAny_bind (L3.at ?_)))))
  show wpAny _ _ (holding [Value.builtin "object.__class__"] (call (.builtin "getset_descriptor.__get__") [.builtin "object.__class__", .ref x, .ref D]) >>= ret) _ _ _
  refine wpAny_bind (wpAny_holding (wpAny_call (class_get (s := ⟨hp, g, d, t + 1, os⟩) (ox := ox) (od := od) X I hm ?_)))
  refine wpAny_pure ?_
  show wpAny _ _ (handedOut (.ref D)) _ _ _
  rw [handedOut_of (v := .ref D) rfl]
  first
    | exact wpAny_pure (wpAny_pure h)
    | exact wpAny_pure h
    | exact wpAny_pure (wpAny_bind (wpAny_pure (wpAny_pure h)))
theorem nv_kitx (hga : findIn K (.ref D) "__getattribute__" = some (some (.builtin "BaseException.__getattribute__"))) (hgt : findIn K (.ref D) "__getattr__" = some none) (hsub : subIn K (.ref D) (.type "BaseException") = some true) (hdct : hasDictIn K D = true) (ha : findIn K (.ref D) "__class__" = some (some (.builtin "object.__class__")))
    (hn : specialIn K (.builtin "object.__class__") "__get__" = some (some (.builtin "getset_descriptor.__get__"))) (htk : takesIn K (.builtin "object.__class__") = some true) (hm : mroIn K D (.type "object") = some true) :
    KitX K (.ref x) (.ref D) (fun h => InstAt h x ox D od) where
  ty := fun _ _ _ I => I.type
  it := fun _ _ X _ => by
    obtain ⟨cdD, hcD, _⟩ := any_some hdct
    unfold clsIn at hcD
    split at hcD
    · rename_i c' d' cd' sl' ho
      intro A' Q' E' s' k q
      unfold isType loadHead
      exact wpAny_bind (wpAny_loadPart (k _ _ (X _ _ ho)) (wpAny_pure q))
    · cases hcD
  ne := fun h tp dd its n sl X htp => by
    obtain ⟨cdD, hcD, _⟩ := any_some hdct
    refine Bool.eq_false_iff.mpr fun q => ?_
    have e : D = tp := Value.ref.inj (beq_iff_eq.mp q)
    subst e
    unfold clsIn at hcD
    split at hcD
    · rename_i c' d' cd' sl' ho
      have z := (X _ _ ho).symm.trans htp
      cases z
    · cases hcD
  ca := fun X I k => nv_class hga hgt hsub hdct ha hn htk hm X I k
end
end PySem.W
namespace L2
open PySem PySem.Spec PyProof.Rows
/-- isinstance(e, c), e a tracked exception of the class D with its own dict -/
def rIsX (K : PySem.W.Frag) : List V → Hp → VK → Prop := fun xs H Q => ∃ (a D dd : Addr) (fs : List (Str × V)) (c : V) (cv : Value) (b : Bool), xs = [.ref a, c] ∧ ExcC K D ∧ H a = some (ExT (.ref D) (some dd) a) ∧ H dd = some (.xd fs) ∧ ClsV c cv ∧ PySem.W.kitOne K (.ref D) cv = some b ∧ Q (.bl b) H
theorem call_isX {X : Cx} : CallR X (.builtin "isinstance") (rIsX X.K) := by
  intro pins s σ H xs us Q I r h
  obtain ⟨a, D, dd, fs, c, cv, b, rfl, C, ea, ed, k, e, q⟩ := h
  obtain ⟨u1, u2, rfl, r1, r2⟩ := vals2 r
  have e2 := k.eq r2
  subst e2
  cases (show u1 = Value.ref a from r1)
  obtain ⟨oe, vs, ha, hz, hd⟩ := exT_at I.hok ea
  have hx : ObjOk X.prog X.w H s.heap dd (.xd fs) := I.hok dd _ ed
  obtain ⟨mA, hns, hr⟩ := hx
  obtain ⟨od, ho, hl⟩ := lookIn_ns hns
  have J : PySem.W.InstAt s.heap a oe D (some od) := ⟨ha, hz.1, by unfold PySem.W.notCls; rw [hd] <;> rfl, by rw [hz.2]; exact ho⟩
  exact PySem.W.kia_one (PySem.W.nv_kitx C.hg C.hk C.hs C.hd C.ha C.hn C.ht C.hm) I.kIn J e (fun z => nomatch z) fun tk => ⟨.bl b, H, I.kept (t' := tk) fun _ _ z => z, rfl, q⟩
end L2
set_option Elab.async false
set_option linter.all false
set_option maxRecDepth 100000
set_option maxHeartbeats 4000000
/-! Lambdas handed to a def, perhaps with one parameter that has a written number as its default. -/
namespace NvL
open PySem PySem.Spec PyProof.Rows L2 LamX
/-- the made function -/
structure LamF (X : Cx) (params : Arguments) (body : Expr) (scope : Scope) (s' : Shared) (H1 : Hp) (f c' : Addr) (dv : List Value) : Prop where
  obj : ∃ (pm ctv doc dV : Value), s'.heap.get? f = some (PySem.W.kdv_obj "<lambda>" (X.env.qual ++ "<lambda>") params (.expr body) scope (cloFrom X.env.cells scope.names []) dV doc pm c' ctv) ∧
    ((dv = [] ∧ dV = .none) ∨ ∃ T, dv ≠ [] ∧ dV = .ref T ∧ s'.heap.get? T = some (PySem.W.kdv_tup dv) ∧ H1 T = none ∧ T ∉ frs X.stack)
  free : H1 f = none
  fr : f ∉ frs X.stack
section
variable {X : Cx} {pins : List (Addr × Obj)} {σ : L2.St} {H : Hp} {s : Shared}
theorem nofr_of (I : Inv X pins σ H s) : ∀ f, s.heap.objs.size ≤ f → f ∉ frs X.stack := fun f hf z => by
  rcases List.mem_cons.mp (I.stkSub _ z) with e | e
  · have h1 := I.lt
    rw [← e] at h1
    exact Nat.lt_irrefl _ (Nat.lt_of_lt_of_le h1 hf)
  · exact I.nofs hf e
/-- the function's making behind its defaults -/
theorem lam_tail {T : List (Addr × Str)} {c P : Addr} {params : Arguments} {body : Expr} {scope : Scope} {pos : Pos} {E : Value → Shared → Prop} {Q : Value → Shared → Prop} {dV : Value} {dv : List Value} (I : Inv X pins σ H s) (TB : TabB X.base X.mg c P) (hcode : X.env.code = .ref c)
    (hm : (P, X.env.qual ++ "<lambda>") ∈ T) (hu : ∀ p ∈ T, p.1 = P → p.2 = X.env.qual ++ "<lambda>") (hT : Tabs T H) (hfree : ∀ y ∈ scope.names, y.2 = .free → ∃ c, X.env.cells.lookup y.1 = some c)
    (hdV : (dv = [] ∧ dV = .none) ∨ ∃ T, dv ≠ [] ∧ dV = .ref T ∧ s.heap.get? T = some (PySem.W.kdv_tup dv) ∧ H T = none ∧ T ∉ frs X.stack)
    (h : ∀ (f c' : Addr) (H1 : Hp) (s' : Shared), Inv X pins σ H1 s' → ExtN H H1 → Tabs T H1 → LamF X params body scope s' H1 f c' dv → H1 c' = some (CodeO c' (X.env.qual ++ "<lambda>")) → Q (.ref f) s') :
    wpAny (model X.prog X.w) X.A (makeTail "<lambda>" (X.env.qual ++ "<lambda>") params (.expr body) scope X.env dV .none none pos pos.line) Q E s := by
  obtain ⟨ps, hP, ht, ha⟩ := hT _ hm
  have bP : s.heap.BuiltinsAt X.mg P := TB.bm.keeps I.bk
  have hP' : s.heap.get? P = some { cls := .none, data := .fields ps } := I.hok P _ hP
  have nofr := nofr_of I
  have ob0 : ∀ {h1 : Heap}, (∀ b o, b ≠ P → s.heap.get? b = some o → h1.get? b = some o) → ∀ {H1 : Hp}, (∀ b, s.heap.get? b ≠ none → H b = none → H1 b = none) → (dv = [] ∧ dV = .none) ∨ ∃ T, dv ≠ [] ∧ dV = .ref T ∧ h1.get? T = some (PySem.W.kdv_tup dv) ∧ H1 T = none ∧ T ∉ frs X.stack := fun {h1} k {H1} kn => by
    rcases hdV with e | ⟨T0, e0, e, e1, e2, e3⟩
    · exact .inl e
    · have nP : T0 ≠ P := fun z => by rw [z, hP] at e2; cases e2
      exact .inr ⟨T0, e0, e, k _ _ nP e1, kn _ (by rw [e1]; exact fun z => nomatch z) e2, e3⟩
  cases hc : codeAmong pos ps.toList with
  | none =>
    refine PySem.W.kdv_makeTail (mg := X.mg) (c := c) (P := P) (ps := ps) (closure_ok hfree) I.ok.glob (I.mod.glob.keeps I.bk) hcode (TB.code.keeps I.bk) hP' ht hc TB.gP bP fun c' ctv doc h' tk hx hge hlt hrec htb => ?_
    obtain ⟨c2, oc, vs, t, e2, hoc, hd, hv⟩ := hrec
    cases e2
    have hsz : s.heap.objs.size ≤ h'.objs.size := Nat.le_trans hge (Nat.le_of_lt hlt)
    have nC : H c' = none := I.hok.fresh hge
    have nP : P ≠ c' := ne_of_none hP nC
    have kk : ∀ b o, b ≠ P → s.heap.get? b = some o → (h'.push (PySem.W.kdv_obj "<lambda>" (X.env.qual ++ "<lambda>") params (.expr body) scope (cloFrom X.env.cells scope.names []) dV doc ((X.mg "__name__").getD .none) c' ctv)).get? b = some o := fun b o hb e => Heap.get?_push_of_some _ (hx b o hb e)
    have I1 := inv_table (t' := tk) (more := #[rawInt pos.line, rawInt pos.col, .ref c']) I hP kk (Heap.get?_push_of_some _ htb) hge ⟨oc, vs, t, Heap.get?_push_of_some _ hoc, hd, hv⟩
    have hE : ExtN H (upd (upd H P (.tbl (ps ++ #[rawInt pos.line, rawInt pos.col, .ref c']))) c' (CodeO c' (X.env.qual ++ "<lambda>"))) := fun b o e n => by
      rw [upd_ne (ne_of_none e nC), upd_ne (fun z => n ps (Option.some.inj (e.symm.trans (by rw [z]; exact hP))))]
      exact e
    have eL : (ps ++ #[rawInt pos.line, rawInt pos.col, .ref c']).toList = ps.toList ++ [rawInt pos.line, rawInt pos.col, .ref c'] := by simp
    have stay : ∀ b, s.heap.get? b ≠ none → H b = none → upd (upd H P (.tbl (ps ++ #[rawInt pos.line, rawInt pos.col, .ref c']))) c' (CodeO c' (X.env.qual ++ "<lambda>")) b = none := fun b hb n => by
      have n1 : b ≠ c' := fun z => hb (by rw [z]; exact Heap.get?_none_of_le hge)
      have n2 : b ≠ P := fun z => by rw [z, hP] at n; cases n
      rw [upd_ne n1, upd_ne n2]
      exact n
    refine h h'.objs.size c' _ _ I1 hE (fun p hp => ?_) ⟨⟨_, ctv, doc, dV, Heap.get?_push_size _ rfl, ob0 kk stay⟩, ?_, nofr _ hsz⟩ upd_same
    · by_cases hb : p.1 = P
      · rw [hu p hp hb, hb]
        refine ⟨_, by rw [upd_ne nP, upd_same], by rw [eL]; exact PySem.TriplesOk_snoc _ _ _ _ ht, fun p' cv hcv => ?_⟩
        rw [eL] at hcv
        rcases among_app _ ht hcv with z | z
        · obtain ⟨c0, e1, e2⟩ := ha p' cv z
          exact ⟨c0, e1, hE _ _ e2 codeO_ne⟩
        · exact ⟨c', z, upd_same⟩
      · obtain ⟨ps', a1, a2, a3⟩ := hT p hp
        refine ⟨ps', by rw [upd_ne (ne_of_none a1 nC), upd_ne hb]; exact a1, a2, fun p' cv hcv => ?_⟩
        obtain ⟨c0, e1, e2⟩ := a3 p' cv hcv
        exact ⟨c0, e1, hE _ _ e2 codeO_ne⟩
    · have n1 : h'.objs.size ≠ c' := Nat.ne_of_gt hlt
      have n2 : h'.objs.size ≠ P := Nat.ne_of_gt (Nat.lt_of_lt_of_le (Heap.lt_size hP') hsz)
      rw [upd_ne n1, upd_ne n2]
      exact I.hok.fresh hsz
  | some cv =>
    obtain ⟨c', e, hco⟩ := ha pos cv hc
    subst e
    refine PySem.W.kdv_makeTailHit (mg := X.mg) (c := c) (P := P) (ps := ps) (closure_ok hfree) I.ok.glob (I.mod.glob.keeps I.bk) hcode (TB.code.keeps I.bk) hP' ht hc bP fun ctv doc h' tk hx hsz => ?_
    have I1 : Inv X pins σ H { s with heap := h'.push (PySem.W.kdv_obj "<lambda>" (X.env.qual ++ "<lambda>") params (.expr body) scope (cloFrom X.env.cells scope.names []) dV doc ((X.mg "__name__").getD .none) c' ctv), toks := tk } := I.kept fun b o e => Heap.get?_push_of_some _ (hx b o e)
    exact h h'.objs.size c' H _ I1 (ExtN.refl H) hT ⟨⟨_, ctv, doc, dV, Heap.get?_push_size _ rfl, ob0 (fun b o _ e => Heap.get?_push_of_some _ (hx b o e)) fun _ _ n => n⟩, I.hok.fresh hsz, nofr _ hsz⟩ hco
/-- the written defaults of the lambda: none, or one number -/
inductive Dfl : List Expr → List Int → Prop where
  | nil : Dfl [] []
  | one (k : Int) (j : Nat) (p : Pos) : Dfl [.Constant (.int k) j p] [k]
theorem lam_make3 {T : List (Addr × Str)} {c P : Addr} {params : Arguments} {body : Expr} {scope : Scope} {pos : Pos} {E : Value → Shared → Prop} {Q : Value → Shared → Prop} {ks : List Int} (I : Inv X pins σ H s) (TB : TabB X.base X.mg c P) (hcode : X.env.code = .ref c)
    (hm : (P, X.env.qual ++ "<lambda>") ∈ T) (hu : ∀ p ∈ T, p.1 = P → p.2 = X.env.qual ++ "<lambda>") (hT : Tabs T H) (hfree : ∀ y ∈ scope.names, y.2 = .free → ∃ c, X.env.cells.lookup y.1 = some c)
    (hk0 : params.kw_defaults = []) (hdf : Dfl params.defaults ks)
    (h : ∀ (f c' : Addr) (dv : List Value) (H1 : Hp) (s' : Shared), Inv X pins σ H1 s' → ExtN H H1 → Tabs T H1 → LamF X params body scope s' H1 f c' dv → IntsAre dv ks → H1 c' = some (CodeO c' (X.env.qual ++ "<lambda>")) → Q (.ref f) s') :
    wpAny (model X.prog X.w) X.A (eval (.Lambda params body scope pos) X.env) Q E s := by
  cases hd : params.defaults with
  | nil =>
    rw [hd] at hdf
    cases hdf
    rw [arm_eval_Lambda, defaultsOf_eq, hk0, hd]
    show wpAny _ _ (do let dv ← evalAll (evalEach [] X.env); let kdv ← holding dv (evalAllOpt []); makeFunction "<lambda>" (X.env.qual ++ "<lambda>") params (.expr body) scope X.env dv kdv [] pos pos.line) Q E s
    refine wpAny_bind (PySem.W.kdv_all0 (wpAny_bind (wpAny_holding (wpAny_pure ?_))))
    rw [makeFunction_eq]
    simp only [List.zip_nil_right, List.filterMap_nil, List.isEmpty_nil, if_true, pure_bind]
    exact lam_tail (dv := []) I TB hcode hm hu hT hfree (.inl ⟨rfl, rfl⟩) fun f c' H1 s' I1 e1 t1 L hc => h f c' [] H1 s' I1 e1 t1 L .nil hc
  | cons e0 er =>
    rw [hd] at hdf
    cases hdf with
    | one k j p =>
    rw [arm_eval_Lambda, defaultsOf_eq, hk0, hd]
    show wpAny _ _ (do let dv ← evalAll (evalEach [.Constant (.int k) j p] X.env); let kdv ← holding dv (evalAllOpt []); makeFunction "<lambda>" (X.env.qual ++ "<lambda>") params (.expr body) scope X.env dv kdv [] pos pos.line) Q E s
    refine wpAny_bind (PySem.W.kdv_all1 (wpAny_Constant_int (PySem.W.kdv_all0 (wpAny_bind (wpAny_holding (wpAny_pure ?_))))))
    rw [makeFunction_eq]
    simp only [List.zip_nil_right, List.filterMap_nil, List.isEmpty_nil, if_true, pure_bind, List.isEmpty_cons, Bool.false_eq_true, if_false]
    refine wpAny_bind (wpAny_newTextTuple ?_)
    have I0 := I.tok (s.toks + 1)
    have I1 : Inv X pins σ H { s with heap := s.heap.push (PySem.W.kdv_tup [.int k s.toks]), toks := s.toks + 1 } := I.kept fun b o e => Heap.get?_push_of_some _ e
    exact lam_tail (dv := [.int k s.toks]) I1 TB hcode hm hu hT hfree (.inr ⟨s.heap.objs.size, List.cons_ne_nil _ _, rfl, Heap.get?_push_size _ rfl, I.hok.fresh (Nat.le_refl _), nofr_of I _ (Nat.le_refl _)⟩) fun f c' H1 s' I2 e1 t1 L hc => h f c' _ H1 s' I2 e1 t1 L (by repeat constructor) hc
end
end NvL
set_option Elab.async false
set_option linter.all false
set_option maxRecDepth 100000
set_option maxHeartbeats 4000000
namespace NvL
open PySem PySem.Spec PyProof.Rows L2 LamX
/-- the lambda's names: captured ones and globals; a parameter of its own is no name of the def around (N) -/
structure LamS3 (N : List Str) (sc scope : Scope) : Prop where
  kind : scope.kind = .function
  co : scope.isCoroutine = false
  gen : scope.isGenerator = false
  own : ∀ y ∈ scope.names, (y.2 = .local → y.1 ∉ N) ∧ y.2 ≠ .cell
  free : ∀ y ∈ scope.names, y.2 = .free → sc.names.lookup y.1 = some .cell ∨ sc.names.lookup y.1 = some .free
def lamS3B (N : List Str) (sc scope : Scope) : Bool :=
  decide (scope.kind = .function) && !scope.isCoroutine && !scope.isGenerator && scope.names.all fun y => (!decide (y.2 = .local) || !N.contains y.1) && !decide (y.2 = .cell) && (!decide (y.2 = .free) || decide (sc.names.lookup y.1 = some .cell) || decide (sc.names.lookup y.1 = some .free))
theorem lamS3_by {N : List Str} {sc scope : Scope} (h : lamS3B N sc scope = true) : LamS3 N sc scope := by
  unfold lamS3B at h
  simp only [Bool.and_eq_true, Bool.or_eq_true, Bool.not_eq_true', decide_eq_true_eq, decide_eq_false_iff_not, List.all_eq_true] at h
  obtain ⟨⟨⟨h1, h2⟩, h3⟩, h4⟩ := h
  refine ⟨h1, h2, h3, fun y hy => ⟨fun e => ?_, (h4 y hy).1.2⟩, fun y hy e => ?_⟩
  · rcases (h4 y hy).1.1 with z | z
    · exact absurd e z
    · intro hm
      rw [List.contains_iff_mem.mpr hm] at z
      cases z
  · rcases (h4 y hy).2 with (z | z) | z
    · exact absurd e z
    · exact .inl z
    · exact .inr z
/-- how a call without arguments binds -/
structure LamB (params : Arguments) (body : Expr) (scope : Scope) (ks : List Int) : Prop where
  b0 : ks = [] → ∀ (q : Str) (cl : List (Str × Addr)) (doc pm cv ctv : Value), bindArgs (PySem.W.kdv_fn "<lambda>" q params (.expr body) scope cl .none doc pm cv ctv) ⟨[], []⟩ = pure []
  b1 : ∀ k, ks = [k] → ∃ a : Str, scope.names.lookup a = some .local ∧ ∀ (q : Str) (cl : List (Str × Addr)) (doc pm cv ctv : Value) (T : Addr), ∃ kk, bindArgs (PySem.W.kdv_fn "<lambda>" q params (.expr body) scope cl (.ref T) doc pm cv ctv) ⟨[], []⟩ = seqItems? (.ref T) >>= kk ∧ ∀ v : Value, kk (some #[v]) = pure [(a, v)]
section
variable {X : Cx} {pins : List (Addr × Obj)} {σ : L2.St} {H HZ : Hp} {s s1 : Shared}
theorem Dfl.tail {l : List Expr} {k : Int} {ns : List Int} (h : Dfl l (k :: ns)) : ns = [] := by
  generalize e : k :: ns = ks at h
  cases h with
  | nil => cases e
  | one k j p => cases e; rfl
theorem LamS3.has {scope : Scope} (L : LamS3 X.N X.env.scope scope) (ok : X.Ok) : ∀ y ∈ scope.names, y.2 = .free → ∃ c, X.env.cells.lookup y.1 = some c := fun y hy e => by
  rcases L.free y hy e with k | k
  · exact ok.has _ (.inl k)
  · exact ok.has _ (.inr k)
theorem lam_start3 {A : Around} {outer : List Env} {E : XK} {scope : Scope} {f c' : Addr} {h₁ : Heap} {tk : Nat} {m1 : Str → Option Value} (I : Inv X pins σ H s) (L : LamS3 X.N X.env.scope scope) (e0 : Env0 X.prog X.w X.K X.mg X.base A outer s1 HZ) (hd : A.handled = none)
    (un : Un (frs X.stack) [] H HZ s.heap s1.heap) (hns : h₁.Ns s1.heap.objs.size m1) (kp : ∀ b o, s1.heap.get? b = some o → h₁.get? b = some o) :
    Inv (lamCx X A outer s1 HZ E scope f c') [] σ HZ { s1 with heap := h₁, toks := tk } := by
  have hfree := L.has I.ok
  have cm : ∀ {y c}, (cloFrom X.env.cells scope.names []).lookup y = some c → X.env.cells.lookup y = some c := fun {y c} e => by
    rcases cloFrom_mem (PySem.mem_of_lookup e) with hm | ⟨h1, h2⟩
    · cases hm
    · obtain ⟨c1, hc⟩ := hfree _ h1 rfl
      have hc : X.env.cells.lookup y = some c1 := hc
      have e2 : c = c1 := by
        rw [h2, hc] <;> rfl
      rw [e2]
      exact hc
  have look : ∀ {y}, scope.names.lookup y = some .free → ∃ c, (cloFrom X.env.cells scope.names []).lookup y = some c := fun {y} hl => by
    have hy : (y, NameKind.free) ∈ scope.names := PySem.mem_of_lookup hl
    exact mem_lookup (cloFrom_has (cells := X.env.cells) (acc := []) hy)
  have cellK : ∀ {c : Addr} {v : Option Value}, H c = none → s.heap.IsCell c v → h₁.IsCell c v := fun {c v} n ⟨o, ho, hd⟩ => by
    obtain ⟨sl, q⟩ := un.any ho n (by simp)
    exact ⟨_, kp _ _ q, hd⟩
  have noA : ∀ b : Addr, b ∉ (lamCx X A outer s1 HZ E scope f c').ex := fun b z => absurd (show b ∈ ([] : List Addr) from z) (by simp)
  refine ⟨⟨e0.mod, L.kind, rfl, rfl, Nat.le_refl _, fun y z c e1 e2 => I.ok.inj y z c (cm e1) (cm e2), fun y hy => ?_, fun y c z _ => ?_, fun _ => hd, Around.frames_deeper e0.frames, .inr ⟨rfl, rfl⟩, fun b z => absurd z (noA b), e0.bs, e0.bsz, fun b _ _ => noA b,
      fun b z => absurd z (noA b), e0.funs, e0.frf⟩,
    rfl, e0.bare, Un.kept kp, ⟨_, hns, fun i y v e1 e2 e3 => ?_⟩, fun y c e => ?_, e0.hok.fresh (Nat.le_refl _), fun y c e => ?_, fun q hq => absurd (show q ∈ ([] : List (Addr × Obj)) ++ [] from hq) (by simp), e0.hok.kept kp, I.len⟩
  · have hy : scope.names.lookup y = some .cell ∨ scope.names.lookup y = some .free := hy
    rcases hy with hy | hy
    · exact absurd rfl (L.own _ (PySem.mem_of_lookup hy)).2
    · exact look hy
  · have z : false = true := z
    cases z
  · have e3 : Vis scope y := e3
    rcases e3 with k | k | k
    · exact absurd (List.mem_of_getElem? e1) ((L.own _ (PySem.mem_of_lookup k)).1 rfl)
    · exact absurd rfl (L.own _ (PySem.mem_of_lookup k)).2
    · obtain ⟨m, hn, hl⟩ := I.loc
      have hvis : Vis X.env.scope y := (L.free _ (PySem.mem_of_lookup k) rfl).elim (fun k => .inr (.inl k)) (fun k => .inr (.inr k))
      obtain ⟨w', r, q⟩ := hl i y v e1 e2 hvis
      obtain ⟨c2, h2⟩ := look k
      refine ⟨w', r, .inr ⟨.inr k, c2, h2, ?_⟩⟩
      have c1 := cm h2
      rcases q with ⟨k', _⟩ | ⟨_, c3, e', z⟩
      · have k' : X.env.scope.names.lookup y = some .local := k'
        rcases L.free _ (PySem.mem_of_lookup k) rfl with k2 | k2 <;> rw [show X.env.scope.names.lookup y = _ from k2] at k' <;> cases k'
      · rw [c1] at e'
        cases e'
        exact cellK (I.freeC y _ c1) z
  · obtain ⟨w', z⟩ := I.cell y c (cm e)
    exact ⟨w', cellK (I.freeC y c (cm e)) z⟩
  · obtain ⟨v, o, ho, hd⟩ := I.cell y c (cm e)
    exact un.free c o ho (I.freeC y c (cm e)) (by simp)
/-- a(), in the def that got the lambda: that def's context, entered at s -/
theorem pe_act3 {Ng : List Str} {qg : Str} {sg : Scope} {g f c' : Addr} {cdg : Value} {params : Arguments} {body : Expr} {scope : Scope} {k i : Nat} {a : Str} {pn : List (Addr × Obj)} {xe : Value → Shared → Prop} {W : WX} {E : XK} {tb : TE} {p1 p2 : Pos} {dv : List Value} {ks : List Int}
    (I : Inv X pins σ H s) (L : LamS3 X.N X.env.scope scope) (F : LamF X params body scope s H f c' dv) (hks : IntsAre dv ks) (B : LamB params body scope ks) (hdf : Dfl params.defaults ks)
    (tk : Takes ((cxOf CX0 X.prog X.w X.K X.mg X.base Ng qg sg g cdg X.A X.stack s H E0).tr pn xe) W) (hW : ∀ cls d σ' H', σ'.length = Ng.length → E cls d H' → W cls d σ' H') (hr : Room (k + 1) (X.A.deeper (envOfC qg sg s.heap.objs.size g cdg)))
    (hbody : ∀ (A : Around) (outer : List Env) (s : Shared) (H : Hp), Room k (A.deeper (lamEnv X scope s.heap.objs.size f c')) → PE (lamCx X A outer s H E scope f c') body tb)
    (hN : Ng[i]? = some a) (hv : Vis sg a) (hd : (a == ("__debug__" : Str)) = false := by decide) (hcd : (a == ("__classdict__" : Str)) = false := by decide) :
    PE ((cxOf CX0 X.prog X.w X.K X.mg X.base Ng qg sg g cdg X.A X.stack s H E0).tr pn xe) (.Call (.Name a p1) [] [] p2)
      (fun σZ HZ Q => σZ[i]? = some (some (.ref f)) ∧ HZ c' = some (CodeO c' (X.env.qual ++ "<lambda>")) ∧ tb σ HZ Q) := by
  refine ⟨fun pinsZ sZ σZ HZ Q IZ h => ?_⟩
  obtain ⟨hs, hc, ht⟩ := h
  refine wpAny_Call_Name_kw (thn ((pe_var (pos := p1) (i := i) hN hv hd hcd).run pinsZ sZ σZ HZ (fun v H1 => v = .ref f ∧ H1 = HZ) IZ ⟨.ref f, hs, rfl, rfl⟩) fun u s1 ⟨v, H1, I1, r1, q1⟩ => ?_)
  obtain ⟨ev, eH⟩ := q1
  subst ev
  rw [eH] at I1
  obtain rfl : u = Value.ref f := r1
  obtain ⟨pm, ctv, doc, dV, hf, hdV⟩ := F.obj
  have of1 : s1.heap.get? f = some (PySem.W.kdv_obj "<lambda>" (X.env.qual ++ "<lambda>") params (.expr body) scope (cloFrom X.env.cells scope.names []) dV doc pm c' ctv) := I1.base.keep f _ hf F.free F.fr (fun z => nomatch (show f ∈ ([] : List Addr) from z))
  refine PySem.W.callWith_F0 ⟨_, _, _, _, of1⟩ ?_
  have un : Un (frs X.stack) [] H HZ s.heap s1.heap := I1.base
  obtain ⟨⟨oc, vs, t, hoc, hdc, hvc⟩, _, _⟩ := I1.hok c' _ hc
  have hbind : ∃ binds, (∀ s2 : Shared, (∀ b o, s1.heap.get? b = some o → s2.heap.get? b = some o) → BindsTo s2 (PySem.W.kdv_fn "<lambda>" (X.env.qual ++ "<lambda>") params (.expr body) scope (cloFrom X.env.cells scope.names []) dV doc pm (.ref c') ctv) ⟨[], []⟩ binds) ∧ ∀ y ∈ binds, scope.names.lookup y.1 = some .local := by
    cases hks with
    | nil =>
      rcases hdV with ⟨_, e⟩ | ⟨T0, e0, e, e1, e2, e3⟩
      · exact ⟨[], fun s2 _ => .of_eq (by rw [e]; exact B.b0 rfl _ _ _ _ _ _), fun y hy => nomatch hy⟩
      · exact absurd rfl e0
    | @cons k0 t0 vs ns hr0 =>
      have en : ns = [] := hdf.tail
      subst en
      cases hr0
      rcases hdV with ⟨e0, _⟩ | ⟨T0, e0, e, e1, e2, e3⟩
      · cases e0
      · obtain ⟨a0, ha0, hb0⟩ := B.b1 k0 rfl
        obtain ⟨kk, h1, h2⟩ := hb0 (X.env.qual ++ "<lambda>") (cloFrom X.env.cells scope.names []) doc pm (.ref c') ctv T0
        have oT : s1.heap.get? T0 = some (PySem.W.kdv_tup [.int k0 t0]) := I1.base.keep T0 _ e1 e2 e3 (fun z => nomatch (show T0 ∈ ([] : List Addr) from z))
        subst e
        refine ⟨[(a0, .int k0 t0)], fun s2 k2 => .of_defaults rfl (k2 _ _ oT) rfl h1 (h2 _), fun y hy => ?_⟩
        rcases List.mem_singleton.mp hy with rfl
        exact ha0
  obtain ⟨binds, hbt, hloc⟩ := hbind
  have rc : codeAny (model X.prog X.w) (X.A.deeper (envOfC qg sg s.heap.objs.size g cdg)) (.call (.ref f) ⟨[], []⟩) (CR (L2.CX X.prog X.w) (envOfC qg sg s.heap.objs.size g cdg :: X.stack) X.prog X.w HZ s1 Q E) s1 := by
    refine PySem.W.kla_callFunE hr.depth of1 rfl L.co L.gen rfl ⟨c', oc, vs, t, rfl, hoc, hdc, hvc⟩ (hbt s1 (fun _ _ e => e) _ _ _ _ ?_)
    refine wpAny_newFunctionEnv (fun y hy => (L.own y hy).2) hloc (fun h₁ hns hsb => ⟨I1.nolimit.fresh _ hsb, ?_⟩) L.kind
    show codeAny _ _ (.expr body (lamEnv X scope s1.heap.objs.size f c')) _ _
    have kp : ∀ b o, s1.heap.get? b = some o → h₁.get? b = some o := fun b o e => hsb.extBut b o (Nat.ne_of_lt (Heap.lt_size e)) (Heap.get?_push_of_some _ e)
    have J := lam_start3 (tk := s1.toks + binds.length) (E := E) (f := f) (c' := c') I L I1.env0 hr.hd un hns kp
    refine PySem.W.kla_codeExpr (wpAny_mono ((hbody _ _ s1 HZ (hr.deeper _)).run [] _ _ HZ Q J ht) (fun v s' hq => ?_) fun e s' hq => hq)
    obtain ⟨w', H', J', rv, q⟩ := hq
    exact ⟨w', H', J'.os, J'.bare, J'.base, J'.hok, rv, q⟩
  refine wpAny_call (codeAny_mono rc fun r s' hq => ?_)
  cases r with
  | error e => exact tk e s' (XE.of_call I1 (fun cls d H' h => hW cls d σZ H' I1.len h) hq)
  | ok fl =>
    cases fl with
    | ret u => exact I1.after hq
    | next => exact False.elim hq
    | brk => exact False.elim hq
    | cont => exact False.elim hq
end
end NvL
set_option Elab.async false
set_option linter.all false
set_option maxRecDepth 100000
set_option maxHeartbeats 4000000
namespace NvL
open PySem PySem.Spec PyProof.Rows L2 LamX
/-- the def x that calls the lambda that it got as a: TT: what it makes of the lambda's reading -/
def Gives (X : Cx) (Ng : List Str) (x : Str) (sg : Scope) (g : Addr) (cdg : Value) (bg : List Stmt) (a : Str) (q : Str) (TT : (XK → Hp → VK → Prop) → Hp → VK → Prop) : Prop :=
  ∀ (f c' : Addr) (s : Shared) (H : Hp) (Q : VK) (tl : XK → Hp → VK → Prop),
    (∀ (W : WX) (pn : List (Addr × Obj)) (xe : Value → Shared → Prop) (E : XK) (p1 p2 : Pos), Takes ((cxOf CX0 X.prog X.w X.K X.mg X.base Ng x sg g cdg X.A X.stack s H E0).tr pn xe) W → (∀ cls d σ' H', σ'.length = Ng.length → E cls d H' → W cls d σ' H') →
      PE ((cxOf CX0 X.prog X.w X.K X.mg X.base Ng x sg g cdg X.A X.stack s H E0).tr pn xe) (.Call (.Name a p1) [] [] p2) (fun σZ HZ Q => σZ[0]? = some (some (.ref f)) ∧ HZ c' = some (CodeO c' q) ∧ tl E HZ Q)) →
    H c' = some (CodeO c' q) → TT tl H Q →
    ∃ t, PSs (cxOf CX0 X.prog X.w X.K X.mg X.base Ng x sg g cdg X.A X.stack s H E0).nox bg t ∧ t { nx := fun _ H' => Q .non H', rt := Q } (L2.start Ng [.ref f]) H
section
variable {X : Cx}
/-- x(lambda ..: body) -/
theorem pe_lamcall3 {T : List (Addr × Str)} {TT : (XK → Hp → VK → Prop) → Hp → VK → Prop} {x a : Str} {g c P : Addr} {k : Nat} {pg : Arguments} {bg : List Stmt} {sg : Scope} {dV kV doc pm cdv ct oc : Value} {an od : Option Addr} {osl : Array (Option Value)} {Ng : List Str}
    {params : Arguments} {body : Expr} {scope : Scope} {t : XK → TE} {p lpos pos : Pos} {ks : List Int} (hg : Gl X x) (hm : X.mg x = some (.ref g)) (hk : PySem.W.keepIn X.K (.ref g) = true)
    (lk : X.K.lookup g = some ⟨oc, od, .func (PySem.W.fnOf x x pg bg sg dV kV doc pm an cdv ct), osl⟩) (hcg : PySem.W.codeIn X.K cdv x = true) (hb : L2.Binds X.K (PySem.W.fnOf x x pg bg sg dV kV doc pm an cdv ct) [a] []) (Sg : FnScope Ng [a] sg) (hNg : Ng[0]? = some a) (hva : Vis sg a)
    (hG : Gives X Ng x sg g cdv bg a (X.env.qual ++ "<lambda>") TT)
    (TB : TabB X.base X.mg c P) (hcode : X.env.code = .ref c) (hmT : (P, X.env.qual ++ "<lambda>") ∈ T) (hu : ∀ p ∈ T, p.1 = P → p.2 = X.env.qual ++ "<lambda>") (hr : Room (k + 2) X.A) (L : LamS3 X.N X.env.scope scope)
    (hk0 : params.kw_defaults = []) (hdf : Dfl params.defaults ks) (B : LamB params body scope ks)
    (hbody : ∀ (A : Around) (outer : List Env) (s : Shared) (H : Hp) (E : XK) (f c' : Addr), Room k (A.deeper (lamEnv X scope s.heap.objs.size f c')) → PE (lamCx X A outer s H E scope f c') body (t E))
    (hdb : (x == ("__debug__" : Str)) = false := by decide) (hd : (a == ("__debug__" : Str)) = false := by decide) (hcd : (a == ("__classdict__" : Str)) = false := by decide) :
    PE X (.Call (.Name x p) [.Lambda params body scope lpos] [] pos) (tLam T TT t) := by
  refine ⟨fun pins s σ H Q I h => ?_⟩
  obtain ⟨hT, h⟩ := h
  refine wpAny_Call_Name_kw (ld_glob I hg hm ?_ hdb)
  refine PySem.W.callWith_K (h₀ := X.base) I.ok.mod.kin hk ?_ (by rfl) (by rfl)
  show wpAny _ _ (spliced ((false, eval (.Lambda params body scope lpos) X.env) :: backTo pos (starEach [] X.env))) _ _ s
  refine Calls.spliced_cons (lam_make3 I TB hcode hmT hu hT (L.has I.ok) hk0 hdf fun f c' dv H1 s' I1 eN T1 F hks hco => ?_)
  refine Calls.spliced_nil ⟨I1.kIn, ?_⟩
  have rc : codeAny (model X.prog X.w) X.A (.call (.ref g) ⟨[.ref f], []⟩) (CR CX0 X.stack X.prog X.w H1 s' Q E0) s' := by
    refine run_ofS (N := Ng) (ps := [a]) (us := [.ref f]) (vs := [.ref f]) lk hcg Sg hr I1.env0 (hb s' [.ref f] I1.kIn rfl) (.cons rfl .nil) rfl fun hr' => ?_
    obtain ⟨t', ht', hq'⟩ := hG f c' s' H1 Q (fun E H' Q' => t E σ H' Q') (fun W pn xe E p1 p2 tk hW => pe_act3 (i := 0) I1 L F hks B hdf tk hW hr' (fun A outer s H hr2 => hbody A outer s H E f c' hr2) hNg hva hd hcd) hco (h H1 eN T1)
    exact ⟨t', ht'.nox, hq'⟩
  refine wpAny_call (codeAny_mono rc fun r s2 hq => ?_)
  cases r with
  | error e => exact (show False from hq).elim
  | ok fl =>
    cases fl with
    | ret u => exact I1.after hq
    | next => exact False.elim hq
    | brk => exact False.elim hq
    | cont => exact False.elim hq
end
end NvL
set_option Elab.async false
set_option linter.all false
set_option maxRecDepth 100000
set_option maxHeartbeats 4000000
/-! Values as data: what a value is, whatever the addresses. -/
namespace Nv
open PySem L2
inductive D where
  | non | bl (b : Bool) | int (i : Int) | str (s : Str) | lst (xs : List D) | tup (xs : List D) | dic | ins (C : Addr)
abbrev Ex := Evl.Ex
/-- the mutable objects S stand -/
def Mem (S : Addr → Prop) (H : Hp) : Prop := ∀ b, S b → ∃ o, H b = some o
theorem Mem.ex {S : Addr → Prop} {H H' : Hp} (m : Mem S H) (e : Ex H H') : Mem S H' := fun b s => by
  obtain ⟨o, h⟩ := m b s
  exact ⟨o, e b o h⟩
theorem Mem.new {S : Addr → Prop} {H : Hp} {p : Addr} (m : Mem S H) (h : H p = none) : ¬ S p := fun s => by
  obtain ⟨o, e⟩ := m p s
  rw [h] at e; cases e
/-- nothing is tracked -/
def H0 : Hp := fun _ => none
/-- a list, a tuple: none of the mutable ones, or of the written part -/
def SL (K : PySem.W.Frag) (S : Addr → Prop) (H : Hp) (a : Addr) (xs : List V) : Prop := H a = some (.lst xs) ∧ ¬ S a
def ST (K : PySem.W.Frag) (S : Addr → Prop) (H : Hp) (a : Addr) (xs : List V) : Prop := (Rd H a (.tup xs) ∧ ¬ S a) ∨ SqT K H0 a xs
theorem rd0 {a : Addr} {u : HO} (h : Rd H0 a u) : False := by
  rcases h with h | ⟨o, h⟩
  · cases h
  · cases h
theorem SL.sq {K : PySem.W.Frag} {S : Addr → Prop} {H : Hp} {a : Addr} {xs : List V} (h : SL K S H a xs) : SqL K H a xs := .inl (.inl h.1)
theorem ST.sq {K : PySem.W.Frag} {S : Addr → Prop} {H : Hp} {a : Addr} {xs : List V} (h : ST K S H a xs) : SqT K H a xs := by
  rcases h with h | h | h
  · exact .inl h.1
  · exact (rd0 h).elim
  · exact .inr h
mutual
inductive Rp (K : PySem.W.Frag) (S : Addr → Prop) (H : Hp) : V → D → Prop where
  | non : Rp K S H .non .non
  | bl (b : Bool) : Rp K S H (.bl b) (.bl b)
  | int (i : Int) : Rp K S H (.int i) (.int i)
  | str (x : Str) : Rp K S H (.str x) (.str x)
  | lst {a : Addr} {xs : List V} {ds : List D} : SL K S H a xs → RpA K S H xs ds → Rp K S H (.ref a) (.lst ds)
  | tup {a : Addr} {xs : List V} {ds : List D} : ST K S H a xs → RpA K S H xs ds → Rp K S H (.ref a) (.tup ds)
  | dic {a : Addr} {kvs : List (Key × V)} : H a = some (.dK kvs) → ¬ S a → Rp K S H (.ref a) .dic
  | ins {a C dx : Addr} {fs : List (Str × V)} : H a = some (.ins C dx fs) → ¬ S a → Rp K S H (.ref a) (.ins C)
inductive RpA (K : PySem.W.Frag) (S : Addr → Prop) (H : Hp) : List V → List D → Prop where
  | nil : RpA K S H [] []
  | cons {v : V} {d : D} {vs : List V} {ds : List D} : Rp K S H v d → RpA K S H vs ds → RpA K S H (v :: vs) (d :: ds)
end
/-- all but the mutable ones stay -/
def ExS (S : Addr → Prop) (H H' : Hp) : Prop := (∀ a o, ¬ S a → H a = some o → H' a = some o) ∧ ∀ a, S a → ∃ o, H' a = some o
theorem ExS.of {S : Addr → Prop} {H H' : Hp} (m : Mem S H) (e : Ex H H') : ExS S H H' := ⟨fun a o _ h => e a o h, m.ex e⟩
theorem ExS.refl {S : Addr → Prop} {H : Hp} (m : Mem S H) : ExS S H H := .of m (Evl.Ex.refl H)
theorem ExS.trans {S : Addr → Prop} {H H1 H2 : Hp} (a : ExS S H H1) (b : ExS S H1 H2) : ExS S H H2 := ⟨fun x o n h => b.1 x o n (a.1 x o n h), b.2⟩
theorem ExS.mem {S : Addr → Prop} {H H' : Hp} (a : ExS S H H') : Mem S H' := a.2
section
variable {K : PySem.W.Frag} {S : Addr → Prop} {H H' : Hp}
theorem rd_mono {a : Addr} {u : HO} (e : ExS S H H') (n : ¬ S a) (h : Rd H a u) : Rd H' a u := by
  rcases h with h | ⟨o, h⟩
  · exact .inl (e.1 _ _ n h)
  · exact .inr ⟨o, e.1 _ _ n h⟩
theorem SL.mono {a : Addr} {xs : List V} (e : ExS S H H') (h : SL K S H a xs) : SL K S H' a xs := ⟨e.1 _ _ h.2 h.1, h.2⟩
theorem ST.mono {a : Addr} {xs : List V} (e : ExS S H H') (h : ST K S H a xs) : ST K S H' a xs := by
  rcases h with ⟨h, n⟩ | h
  · exact .inl ⟨rd_mono e n h, n⟩
  · exact .inr h
mutual
theorem Rp.mono (e : ExS S H H') : ∀ {d : D} {v : V}, Rp K S H v d → Rp K S H' v d
  | .non, _, h => by cases h; exact .non
  | .bl b, _, h => by cases h; exact .bl b
  | .int i, _, h => by cases h; exact .int i
  | .str x, _, h => by cases h; exact .str x
  | .lst ds, _, h => by
    cases h with
    | lst h1 h2 => exact .lst (h1.mono e) (RpA.mono e h2)
  | .tup ds, _, h => by
    cases h with
    | tup h1 h2 => exact .tup (h1.mono e) (RpA.mono e h2)
  | .dic, _, h => by
    cases h with
    | dic h1 h2 => exact .dic (e.1 _ _ h2 h1) h2
  | .ins C, _, h => by
    cases h with
    | ins h1 h2 => exact .ins (e.1 _ _ h2 h1) h2
theorem RpA.mono (e : ExS S H H') : ∀ {ds : List D} {vs : List V}, RpA K S H vs ds → RpA K S H' vs ds
  | [], _, h => by cases h; exact .nil
  | d :: ds, _, h => by
    cases h with
    | cons h1 h2 => exact .cons (Rp.mono e h1) (RpA.mono e h2)
end
theorem RpA.length : ∀ {ds : List D} {vs : List V}, RpA K S H vs ds → vs.length = ds.length
  | _, _, .nil => rfl
  | _, _, .cons _ t => congrArg (· + 1) (RpA.length t)
theorem RpA.get : ∀ {ds : List D} {vs : List V} {i : Nat} {d : D}, RpA K S H vs ds → ds[i]? = some d → ∃ v, vs[i]? = some v ∧ Rp K S H v d
  | _, _, _, _, .nil, h => by cases h
  | _, _, 0, _, .cons r _, h => by
    cases h
    exact ⟨_, rfl, r⟩
  | _, _, i + 1, _, .cons _ t, h => by
    obtain ⟨v, h1, h2⟩ := RpA.get (i := i) t h
    exact ⟨v, h1, h2⟩
theorem RpA.getV : ∀ {ds : List D} {vs : List V} {i : Nat} {v : V}, RpA K S H vs ds → vs[i]? = some v → ∃ d, ds[i]? = some d ∧ Rp K S H v d
  | _, _, _, _, .nil, h => by cases h
  | _, _, 0, _, .cons r _, h => by
    cases h
    exact ⟨_, rfl, r⟩
  | _, _, i + 1, _, .cons _ t, h => by
    obtain ⟨v, h1, h2⟩ := RpA.getV (i := i) t h
    exact ⟨v, h1, h2⟩
theorem RpA.app : ∀ {ds es : List D} {vs ws : List V}, RpA K S H vs ds → RpA K S H ws es → RpA K S H (vs ++ ws) (ds ++ es)
  | _, _, _, _, .nil, h => h
  | _, _, _, _, .cons r t, h => .cons r (RpA.app t h)
theorem RpA.take : ∀ {ds : List D} {vs : List V} (n : Nat), RpA K S H vs ds → RpA K S H (vs.take n) (ds.take n)
  | _, _, 0, _ => by simp; exact .nil
  | _, _, _ + 1, .nil => by simp; exact .nil
  | _, _, n + 1, .cons r t => .cons r (RpA.take n t)
theorem RpA.drop : ∀ {ds : List D} {vs : List V} (n : Nat), RpA K S H vs ds → RpA K S H (vs.drop n) (ds.drop n)
  | _, _, 0, h => h
  | _, _, _ + 1, .nil => by simp; exact .nil
  | _, _, n + 1, .cons _ t => RpA.drop n t
theorem RpA.ints : ∀ {ns : List Int} {vs : List V}, RpA K S H vs (ns.map D.int) → vs = ns.map V.int
  | [], _, h => by cases h; rfl
  | n :: ns, _, h => by
    cases h with
    | cons r t =>
      cases r
      rw [RpA.ints t]
      rfl
theorem RpA.strs : ∀ {ns : List Str} {vs : List V}, RpA K S H vs (ns.map D.str) → vs = ns.map V.str
  | [], _, h => by cases h; rfl
  | n :: ns, _, h => by
    cases h with
    | cons r t =>
      cases r
      rw [RpA.strs t]
      rfl
theorem RpA.bools : ∀ {ns : List Bool} {vs : List V}, RpA K S H vs (ns.map D.bl) → vs = ns.map V.bl
  | [], _, h => by cases h; rfl
  | n :: ns, _, h => by
    cases h with
    | cons r t =>
      cases r
      rw [RpA.bools t]
      rfl
theorem rpA_strs : ∀ (ns : List Str), RpA K S H (ns.map V.str) (ns.map D.str)
  | [] => .nil
  | n :: ns => .cons (.str n) (rpA_strs ns)
theorem rpA_ints : ∀ (ns : List Int), RpA K S H (ns.map V.int) (ns.map D.int)
  | [] => .nil
  | n :: ns => .cons (.int n) (rpA_ints ns)
theorem rpA_bools : ∀ (ns : List Bool), RpA K S H (ns.map V.bl) (ns.map D.bl)
  | [] => .nil
  | n :: ns => .cons (.bl n) (rpA_bools ns)
/-- a new list, a new tuple -/
theorem Rp.newL {vs : List V} {ds : List D} {p : Addr} (m : Mem S H) (h : RpA K S H vs ds) (hp : H p = none) : Rp K S (upd H p (.lst vs)) (.ref p) (.lst ds) :=
  .lst ⟨upd_same, m.new hp⟩ (h.mono (.of m (Evl.Ex.new hp)))
theorem Rp.newT {vs : List V} {ds : List D} {p : Addr} (m : Mem S H) (h : RpA K S H vs ds) (hp : H p = none) : Rp K S (upd H p (.tup vs)) (.ref p) (.tup ds) :=
  .tup (.inl ⟨.inl upd_same, m.new hp⟩) (h.mono (.of m (Evl.Ex.new hp)))
/-! ### the type -/
end
/-- what isinstance asks of the classes of one's own that values have -/
def typ : D → Value
  | .non => .type "NoneType"
  | .bl _ => .type "bool"
  | .int _ => .type "int"
  | .str _ => .type "str"
  | .lst _ => .type "list"
  | .tup _ => .type "tuple"
  | .dic => .type "dict"
  | .ins C => .ref C
structure InsC (K : PySem.W.Frag) (C : Addr) : Prop where
  cl : Cls K C
  ha : PySem.W.findIn K (.ref C) "__class__" = some (some (.builtin "object.__class__"))
  hn : PySem.W.specialIn K (.builtin "object.__class__") "__get__" = some (some (.builtin "getset_descriptor.__get__"))
  ht : PySem.W.takesIn K (.builtin "object.__class__") = some true
  hm : PySem.W.mroIn K C (.type "object") = some true
def okT (K : PySem.W.Frag) : D → Prop
  | .ins C => InsC K C
  | _ => True
theorem Rp.ty {K : PySem.W.Frag} {S : Addr → Prop} {H : Hp} {v : V} {d : D} (h : Rp K S H v d) (o : okT K d) : TyX K H v (typ d) := by
  cases h with
  | non => exact .base .non
  | bl b => exact .base (.bl b)
  | int i => exact .base (.int i)
  | str x => exact .base (.str x)
  | lst h1 _ => exact .base (.lst h1.1)
  | tup h1 _ =>
    rcases h1 with ⟨h1 | ⟨o, h1⟩, _⟩ | h1 | ⟨o, its, n, h1, h2, _⟩
    · exact .base (.tup h1)
    · exact .fTuple h1
    · exact (rd0 h1).elim
    · exact .kTuple h1 h2
  | dic h1 _ => exact .base (.dK h1)
  | ins h1 _ => exact .base (.ins h1 o.cl o.ha o.hn o.ht o.hm)
end Nv
set_option Elab.async false
set_option linter.all false
set_option maxRecDepth 100000
set_option maxHeartbeats 4000000
/-! What a reading gives, as data; nothing that stood is changed. -/
namespace Nv
open PySem L2 StX
def EvD (K : PySem.W.Frag) (S : Addr → Prop) (te : TE) (σ : L2.St) (H : Hp) (d : D) : Prop := ∀ H1, Ex H H1 → ∀ Q : VK, (∀ v H2, Ex H1 H2 → Rp K S H2 v d → Q v H2) → te σ H1 Q
def EvA (K : PySem.W.Frag) (S : Addr → Prop) (ta : TA) (σ : L2.St) (H : Hp) (ds : List D) : Prop := ∀ H1, Ex H H1 → ∀ Q : List V → Hp → Prop, (∀ vs H2, Ex H1 H2 → RpA K S H2 vs ds → Q vs H2) → ta σ H1 Q
def EvB (tt : TT) (σ : L2.St) (H : Hp) (b : Bool) : Prop := ∀ H1, Ex H H1 → ∀ Q : Bool → Hp → Prop, (∀ H2, Ex H1 H2 → Q b H2) → tt σ H1 Q
def EvO (to : TO) (σ : L2.St) (H : Hp) (o : Option Int) : Prop := ∀ H1, Ex H H1 → ∀ Q : Option Int → Hp → Prop, (∀ H2, Ex H1 H2 → Q o H2) → to σ H1 Q
/-- a rule on two values, on one value, on a list of values -/
def R2D (K : PySem.W.Frag) (S : Addr → Prop) (r : R2) (H : Hp) (d1 d2 d : D) : Prop := ∀ H1, Ex H H1 → ∀ x y, Rp K S H1 x d1 → Rp K S H1 y d2 → ∀ Q : VK, (∀ v H2, Ex H1 H2 → Rp K S H2 v d → Q v H2) → r x y H1 Q
def RAD (K : PySem.W.Frag) (S : Addr → Prop) (r : List V → Hp → VK → Prop) (H : Hp) (ds : List D) (d : D) : Prop := ∀ H1, Ex H H1 → ∀ vs, RpA K S H1 vs ds → ∀ Q : VK, (∀ v H2, Ex H1 H2 → Rp K S H2 v d → Q v H2) → r vs H1 Q
section
variable {K : PySem.W.Frag} {S : Addr → Prop} {σ : L2.St} {H H' : Hp} {te ta tb tx : TE} {t u : TT} {d d1 d2 : D}
theorem EvD.mono (e : Ex H H') (h : EvD K S te σ H d) : EvD K S te σ H' d := fun H1 a Q q => h H1 (e.trans a) Q q
theorem EvA.mono {ta : TA} {ds : List D} (e : Ex H H') (h : EvA K S ta σ H ds) : EvA K S ta σ H' ds := fun H1 a Q q => h H1 (e.trans a) Q q
theorem EvB.mono {b : Bool} (e : Ex H H') (h : EvB t σ H b) : EvB t σ H' b := fun H1 a Q q => h H1 (e.trans a) Q q
theorem EvD.is (h : EvD K S te σ H d) (e : d = d1) : EvD K S te σ H d1 := e ▸ h
theorem EvB.is {b c : Bool} (h : EvB t σ H b) (e : b = c) : EvB t σ H c := e ▸ h
theorem ev_var {i : Nat} {v : V} (m : Mem S H) (h : σ[i]? = some (some v)) (r : Rp K S H v d) : EvD K S (tVar i) σ H d := fun H1 e Q q => ⟨v, h, q v H1 (Evl.Ex.refl _) (r.mono (.of m e))⟩
theorem ev_int {i : Int} : EvD K S (tC (.int i)) σ H (.int i) := fun H1 _ _ q => q _ H1 (Evl.Ex.refl _) (.int i)
theorem ev_str {i : Str} : EvD K S (tC (.str i)) σ H (.str i) := fun H1 _ _ q => q _ H1 (Evl.Ex.refl _) (.str i)
theorem ev_bl {i : Bool} : EvD K S (tC (.bl i)) σ H (.bl i) := fun H1 _ _ q => q _ H1 (Evl.Ex.refl _) (.bl i)
theorem ev_non : EvD K S (tC .non) σ H .non := fun H1 _ _ q => q _ H1 (Evl.Ex.refl _) .non
theorem ev_c {v : V} (r : ∀ H1, Rp K S H1 v d) : EvD K S (tC v) σ H d := fun H1 _ _ q => q _ H1 (Evl.Ex.refl _) (r H1)
theorem ea_nil : EvA K S tNil σ H [] := fun H1 _ _ q => q [] H1 (Evl.Ex.refl _) .nil
theorem ea_cons {tr : TA} {ds : List D} (m : Mem S H) (h : EvD K S te σ H d) (hr : EvA K S tr σ H ds) : EvA K S (tCons te tr) σ H (d :: ds) := fun H1 e Q q =>
  h H1 e _ fun v H2 e2 r2 => hr H2 (e.trans e2) _ fun vs H3 e3 r3 => q _ H3 (e2.trans e3) (.cons (r2.mono (.of (m.ex (e.trans e2)) e3)) r3)
theorem ea_star {tr : TA} {ds es : List D} (m : Mem S H) (h : EvD K S te σ H (.lst ds)) (hr : EvA K S tr σ H es) : EvA K S (tStar K te tr) σ H (ds ++ es) := fun H1 e Q q =>
  h H1 e _ fun v H2 e2 r2 => by
    cases r2 with
    | @lst a xs _ h1 h2 =>
      exact ⟨a, xs, rfl, .inr h1.sq, hr H2 (e.trans e2) _ fun vs H3 e3 r3 => q _ H3 (e2.trans e3) ((h2.mono (.of (m.ex (e.trans e2)) e3)).app r3)⟩
theorem ea_starT {tr : TA} {ds es : List D} (m : Mem S H) (h : EvD K S te σ H (.tup ds)) (hr : EvA K S tr σ H es) : EvA K S (tStar K te tr) σ H (ds ++ es) := fun H1 e Q q =>
  h H1 e _ fun v H2 e2 r2 => by
    cases r2 with
    | @tup a xs _ h1 h2 =>
      exact ⟨a, xs, rfl, .inl h1.sq, hr H2 (e.trans e2) _ fun vs H3 e3 r3 => q _ H3 (e2.trans e3) ((h2.mono (.of (m.ex (e.trans e2)) e3)).app r3)⟩
theorem small {n : Nat} (h : n ≤ 100000) : n ≤ sizeLine := Nat.le_trans h (by decide)
theorem ev_tup {ta : TA} {ds : List D} (m : Mem S H) (h : EvA K S ta σ H ds) (hl : ds.length ≤ 100000) : EvD K S (tTup ta) σ H (.tup ds) := fun H1 e Q q =>
  h H1 e _ fun vs H2 e2 r2 => ⟨small (by rw [r2.length]; exact hl), fun p hp => q _ _ (e2.trans (Evl.Ex.new hp)) (.newT (m.ex (e.trans e2)) r2 hp)⟩
theorem ev_lst {ta : TA} {ds : List D} (m : Mem S H) (h : EvA K S ta σ H ds) (hl : ds.length ≤ 100000) : EvD K S (tLst ta) σ H (.lst ds) := fun H1 e Q q =>
  h H1 e _ fun vs H2 e2 r2 => ⟨small (by rw [r2.length]; exact hl), fun p hp => q _ _ (e2.trans (Evl.Ex.new hp)) (.newL (m.ex (e.trans e2)) r2 hp)⟩
theorem ev_op {r : R2} (m : Mem S H) (h1 : EvD K S ta σ H d1) (h2 : EvD K S tb σ H d2) (hr : R2D K S r H d1 d2 d) : EvD K S (tOp r ta tb) σ H d := fun H1 e Q q =>
  h1 H1 e _ fun x H2 e2 r2 => h2 H2 (e.trans e2) _ fun y H3 e3 r3 => hr H3 ((e.trans e2).trans e3) x y (r2.mono (.of (m.ex (e.trans e2)) e3)) r3 Q fun v H4 e4 r4 => q v H4 ((e2.trans e3).trans e4) r4
theorem ev_cb {r : List V → Hp → VK → Prop} {ta : TA} {ds : List D} (h : EvA K S ta σ H ds) (hr : RAD K S r H ds d) : EvD K S (tCB r ta) σ H d := fun H1 e Q q =>
  h H1 e _ fun vs H2 e2 r2 => hr H2 (e.trans e2) vs r2 Q fun v H3 e3 r3 => q v H3 (e2.trans e3) r3
theorem ev_call {sp : Sp} {E : XK} {ta : TA} {ds : List D} (h : EvA K S ta σ H ds) (hr : RAD K S (fun vs H Q => sp (vs ++ []) H Q E) H ds d) : EvD K S (tCall sp [] E ta) σ H d := fun H1 e Q q =>
  h H1 e _ fun vs H2 e2 r2 => hr H2 (e.trans e2) vs r2 Q fun v H3 e3 r3 => q v H3 (e2.trans e3) r3
/-! ### rules on values -/
theorem r_I0 {g : Int → Int → V} {i j : Int} (hd : ∀ H, Rp K S H (g i j) d) : R2D K S (rI0 g) H (.int i) (.int j) d := fun H1 _ x y rx ry Q q => by
  cases rx; cases ry
  exact ⟨i, j, rfl, rfl, q _ H1 (Evl.Ex.refl _) (hd H1)⟩
theorem r_I {C : Int → Int → Prop} {g : Int → Int → V} {i j : Int} (hc : C i j) (hd : ∀ H, Rp K S H (g i j) d) : R2D K S (rI C g) H (.int i) (.int j) d := fun H1 _ x y rx ry Q q => by
  cases rx; cases ry
  exact ⟨i, j, rfl, rfl, hc, q _ H1 (Evl.Ex.refl _) (hd H1)⟩
theorem r_add {i j : Int} : R2D K S (rI0 fun i j => .int (i + j)) H (.int i) (.int j) (.int (i + j)) := r_I0 fun _ => .int _
theorem r_sub {i j : Int} : R2D K S (rI0 fun i j => .int (i - j)) H (.int i) (.int j) (.int (i - j)) := r_I0 fun _ => .int _
theorem r_lt {i j : Int} : R2D K S (rI0 fun i j => .bl (decide (i < j))) H (.int i) (.int j) (.bl (decide (i < j))) := r_I0 fun _ => .bl _
theorem r_le {i j : Int} : R2D K S (rI0 fun i j => .bl (decide (i ≤ j))) H (.int i) (.int j) (.bl (decide (i ≤ j))) := r_I0 fun _ => .bl _
theorem r_gt {i j : Int} : R2D K S (rI0 fun i j => .bl (decide (j < i))) H (.int i) (.int j) (.bl (decide (j < i))) := r_I0 fun _ => .bl _
theorem r_ge {i j : Int} : R2D K S (rI0 fun i j => .bl (decide (j ≤ i))) H (.int i) (.int j) (.bl (decide (j ≤ i))) := r_I0 fun _ => .bl _
theorem r_eqI {i j : Int} : R2D K S rEq H (.int i) (.int j) (.bl (decide (i = j))) := fun H1 _ x y rx ry Q q => by
  cases rx; cases ry
  refine ⟨rfl, q _ H1 (Evl.Ex.refl _) ?_⟩
  rw [dec_int, Bool.beq_eq_decide_eq]
  exact .bl _
theorem r_neI {i j : Int} : R2D K S rNe H (.int i) (.int j) (.bl (!decide (i = j))) := fun H1 _ x y rx ry Q q => by
  cases rx; cases ry
  refine ⟨rfl, q _ H1 (Evl.Ex.refl _) ?_⟩
  rw [dec_int, Bool.beq_eq_decide_eq]
  exact .bl _
theorem r_eqS {i j : Str} : R2D K S rEq H (.str i) (.str j) (.bl (decide (i = j))) := fun H1 _ x y rx ry Q q => by
  cases rx; cases ry
  refine ⟨rfl, q _ H1 (Evl.Ex.refl _) ?_⟩
  rw [dec_str, Bool.beq_eq_decide_eq]
  exact .bl _
theorem r_neS {i j : Str} : R2D K S rNe H (.str i) (.str j) (.bl (!decide (i = j))) := fun H1 _ x y rx ry Q q => by
  cases rx; cases ry
  refine ⟨rfl, q _ H1 (Evl.Ex.refl _) ?_⟩
  rw [dec_str, Bool.beq_eq_decide_eq]
  exact .bl _
def D.isNon : D → Bool
  | .non => true
  | _ => false
theorem Rp.non_iff {v : V} (r : Rp K S H v d) : decide (v = .non) = d.isNon := by cases r <;> rfl
theorem r_isN : R2D K S (fun x y H Q => y = .non ∧ Q (.bl (decide (x = .non))) H) H d .non (.bl d.isNon) := fun H1 _ x y rx ry Q q => by
  cases ry
  refine ⟨rfl, q _ H1 (Evl.Ex.refl _) ?_⟩
  rw [rx.non_iff]
  exact .bl _
theorem r_notN : R2D K S (fun x y H Q => y = .non ∧ Q (.bl (!decide (x = .non))) H) H d .non (.bl (!d.isNon)) := fun H1 _ x y rx ry Q q => by
  cases ry
  refine ⟨rfl, q _ H1 (Evl.Ex.refl _) ?_⟩
  rw [rx.non_iff]
  exact .bl _
/-! ### isinstance -/
theorem r_isi {n : String} {b : Bool} {te : TE} (h : EvD K S te σ H d) (o : okT K d) (hk : PySem.W.kitOne K (typ d) (.type n) = some b) : EvD K S (tCB (rIsi K) (tCons te (tCons (tC (.ty n)) tNil))) σ H (.bl b) := fun H1 e Q q =>
  h H1 e _ fun v H2 e2 r2 => ⟨v, .ty n, typ d, .type n, b, rfl, .ty n, r2.ty o, hk, q _ H2 e2 (.bl b)⟩
theorem r_isiC {C : Addr} {b : Bool} {te : TE} (h : EvD K S te σ H d) (o : okT K d) (hk : PySem.W.kitOne K (typ d) (.ref C) = some b) : EvD K S (tCB (rIsi K) (tCons te (tCons (tC (.ref C)) tNil))) σ H (.bl b) := fun H1 e Q q =>
  h H1 e _ fun v H2 e2 r2 => ⟨v, .ref C, typ d, .ref C, b, rfl, .own C, r2.ty o, hk, q _ H2 e2 (.bl b)⟩
theorem r_isiLT {b : Bool} {te : TE} (m : Mem S H) (h : EvD K S te σ H d) (o : okT K d) (hk : PySem.W.kitAny K (typ d) [.type "list", .type "tuple"] = some b) :
    EvD K S (tCB (rIsiT K) (tCons te (tCons (tTup (tCons (tC (.ty "list")) (tCons (tC (.ty "tuple")) tNil))) tNil))) σ H (.bl b) := fun H1 e Q q =>
  h H1 e _ fun v H2 e2 r2 => ⟨small (by decide), fun p hp => ⟨v, p, [.ty "list", .ty "tuple"], typ d, [.type "list", .type "tuple"], b, rfl, upd_same, .cons (.ty _) (.cons (.ty _) .nil), (r2.mono (.of (m.ex (e.trans e2)) (Evl.Ex.new hp))).ty o, hk, q _ _ (e2.trans (Evl.Ex.new hp)) (.bl b)⟩⟩
def D.isInt : D → Bool
  | .int _ => true
  | .bl _ => true
  | _ => false
def D.isBool : D → Bool
  | .bl _ => true
  | _ => false
def D.isStr : D → Bool
  | .str _ => true
  | _ => false
def D.isLT : D → Bool
  | .lst _ => true
  | .tup _ => true
  | _ => false
def D.isL : D → Bool
  | .lst _ => true
  | _ => false
/-- no instance of an own class -/
def D.base : D → Bool
  | .ins _ => false
  | _ => true
theorem ki_int (h : d.base = true) : PySem.W.kitOne K (typ d) (.type "int") = some d.isInt := by
  cases d with
  | ins C => cases h
  | non => exact kit_ty (r := false) (by decide +kernel)
  | bl _ => exact kit_ty (r := true) (by decide +kernel)
  | int _ => exact kit_ty (r := true) (by decide +kernel)
  | str _ => exact kit_ty (r := false) (by decide +kernel)
  | lst _ => exact kit_ty (r := false) (by decide +kernel)
  | tup _ => exact kit_ty (r := false) (by decide +kernel)
  | dic => exact kit_ty (r := false) (by decide +kernel)
theorem ki_bool (h : d.base = true) : PySem.W.kitOne K (typ d) (.type "bool") = some d.isBool := by
  cases d with
  | ins C => cases h
  | non => exact kit_ty (r := false) (by decide +kernel)
  | bl _ => exact kit_ty (r := true) (by decide +kernel)
  | int _ => exact kit_ty (r := false) (by decide +kernel)
  | str _ => exact kit_ty (r := false) (by decide +kernel)
  | lst _ => exact kit_ty (r := false) (by decide +kernel)
  | tup _ => exact kit_ty (r := false) (by decide +kernel)
  | dic => exact kit_ty (r := false) (by decide +kernel)
theorem ki_str (h : d.base = true) : PySem.W.kitOne K (typ d) (.type "str") = some d.isStr := by
  cases d with
  | ins C => cases h
  | non => exact kit_ty (r := false) (by decide +kernel)
  | bl _ => exact kit_ty (r := false) (by decide +kernel)
  | int _ => exact kit_ty (r := false) (by decide +kernel)
  | str _ => exact kit_ty (r := true) (by decide +kernel)
  | lst _ => exact kit_ty (r := false) (by decide +kernel)
  | tup _ => exact kit_ty (r := false) (by decide +kernel)
  | dic => exact kit_ty (r := false) (by decide +kernel)
theorem ki_list (h : d.base = true) : PySem.W.kitOne K (typ d) (.type "list") = some d.isL := by
  cases d with
  | ins C => cases h
  | non => exact kit_ty (r := false) (by decide +kernel)
  | bl _ => exact kit_ty (r := false) (by decide +kernel)
  | int _ => exact kit_ty (r := false) (by decide +kernel)
  | str _ => exact kit_ty (r := false) (by decide +kernel)
  | lst _ => exact kit_ty (r := true) (by decide +kernel)
  | tup _ => exact kit_ty (r := false) (by decide +kernel)
  | dic => exact kit_ty (r := false) (by decide +kernel)
theorem ki_LT (h : d.base = true) : PySem.W.kitAny K (typ d) [.type "list", .type "tuple"] = some d.isLT := by
  have nilE : ∀ t, PySem.W.kitAny K t [] = some false := fun _ => rfl
  cases d with
  | lst xs => exact kitAny_cons (b := true) (kit_ty (by decide +kernel)) (fun z => nomatch z) fun _ => rfl
  | tup xs => exact kitAny_cons (b := false) (kit_ty (by decide +kernel)) (fun _ => kitAny_cons (b := true) (kit_ty (by decide +kernel)) (fun z => nomatch z) fun _ => rfl) fun z => nomatch z
  | ins C => cases h
  | non => exact kitAny_cons (b := false) (kit_ty (by decide +kernel)) (fun _ => kitAny_cons (b := false) (kit_ty (by decide +kernel)) (fun _ => nilE _) fun z => nomatch z) fun z => nomatch z
  | bl _ => exact kitAny_cons (b := false) (kit_ty (by decide +kernel)) (fun _ => kitAny_cons (b := false) (kit_ty (by decide +kernel)) (fun _ => nilE _) fun z => nomatch z) fun z => nomatch z
  | int _ => exact kitAny_cons (b := false) (kit_ty (by decide +kernel)) (fun _ => kitAny_cons (b := false) (kit_ty (by decide +kernel)) (fun _ => nilE _) fun z => nomatch z) fun z => nomatch z
  | str _ => exact kitAny_cons (b := false) (kit_ty (by decide +kernel)) (fun _ => kitAny_cons (b := false) (kit_ty (by decide +kernel)) (fun _ => nilE _) fun z => nomatch z) fun z => nomatch z
  | dic => exact kitAny_cons (b := false) (kit_ty (by decide +kernel)) (fun _ => kitAny_cons (b := false) (kit_ty (by decide +kernel)) (fun _ => nilE _) fun z => nomatch z) fun z => nomatch z
theorem okT_base (h : d.base = true) : okT K d := by cases d <;> first | trivial | cases h
/-! ### truth -/
theorem eb_T {b : Bool} (h : EvD K S te σ H (.bl b)) : EvB (tTest te) σ H b := fun H1 e Q q => h H1 e _ fun v H2 e2 r2 => by cases r2; exact ⟨b, rfl, q H2 e2⟩
theorem eb_B {b : Bool} (h : EvD K S te σ H (.bl b)) : EvB (tB te) σ H b := fun H1 e Q q => h H1 e _ fun v H2 e2 r2 => by cases r2; exact ⟨b, rfl, q H2 e2⟩
theorem eb_and {a b : Bool} (h1 : EvB t σ H a) (h2 : a = true → EvB u σ H b) : EvB (tAnd t u) σ H (a && b) := fun H1 e Q q => h1 H1 e _ fun H2 e2 => by
  cases a with
  | true => exact h2 rfl H2 (e.trans e2) Q fun H3 e3 => q H3 (e2.trans e3)
  | false => exact q H2 e2
theorem eb_or {a b : Bool} (h1 : EvB t σ H a) (h2 : a = false → EvB u σ H b) : EvB (tOr t u) σ H (a || b) := fun H1 e Q q => h1 H1 e _ fun H2 e2 => by
  cases a with
  | false => exact h2 rfl H2 (e.trans e2) Q fun H3 e3 => q H3 (e2.trans e3)
  | true => exact q H2 e2
theorem eb_not {a : Bool} (h1 : EvB t σ H a) : EvB (tNot t) σ H (!a) := fun H1 e Q q => h1 H1 e _ fun H2 e2 => q H2 e2
theorem ev_and {a b : Bool} (h1 : EvD K S ta σ H (.bl a)) (h2 : a = true → EvD K S tb σ H (.bl b)) : EvD K S (tAndV ta tb) σ H (.bl (a && b)) := fun H1 e Q q => h1 H1 e _ fun v H2 e2 r2 => by
  cases r2
  refine ⟨a, rfl, ?_⟩
  cases a with
  | true => exact h2 rfl H2 (e.trans e2) Q fun v H3 e3 r3 => q v H3 (e2.trans e3) r3
  | false => exact q _ H2 e2 (.bl _)
theorem ev_or {a b : Bool} (h1 : EvD K S ta σ H (.bl a)) (h2 : a = false → EvD K S tb σ H (.bl b)) : EvD K S (tOrV ta tb) σ H (.bl (a || b)) := fun H1 e Q q => h1 H1 e _ fun v H2 e2 r2 => by
  cases r2
  refine ⟨a, rfl, ?_⟩
  cases a with
  | false => exact h2 rfl H2 (e.trans e2) Q fun v H3 e3 r3 => q v H3 (e2.trans e3) r3
  | true => exact q _ H2 e2 (.bl _)
theorem ev_not {a : Bool} (h1 : EvD K S ta σ H (.bl a)) : EvD K S (tNotV ta) σ H (.bl (!a)) := fun H1 e Q q => h1 H1 e _ fun v H2 e2 r2 => by
  cases r2
  exact ⟨a, rfl, q _ H2 e2 (.bl _)⟩
theorem ev_if {b : Bool} (h : EvB t σ H b) (h1 : b = true → EvD K S ta σ H d) (h2 : b = false → EvD K S tb σ H d) : EvD K S (tIf t ta tb) σ H d := fun H1 e Q q => h H1 e _ fun H2 e2 => by
  cases b with
  | true => exact h1 rfl H2 (e.trans e2) Q fun v H3 e3 r3 => q v H3 (e2.trans e3) r3
  | false => exact h2 rfl H2 (e.trans e2) Q fun v H3 e3 r3 => q v H3 (e2.trans e3) r3
/-- a < b < c -/
theorem ev_chain {r r' : R2} {d3 : D} {a b : Bool} (m : Mem S H) (h1 : EvD K S ta σ H d1) (h2 : EvD K S tb σ H d2) (hr : R2D K S r H d1 d2 (.bl a)) (h3 : a = true → EvD K S tx σ H d3) (hr' : a = true → R2D K S r' H d2 d3 (.bl b)) : EvD K S (tChain r r' ta tb tx) σ H (.bl (a && b)) := fun H1 e Q q =>
  h1 H1 e _ fun x H2 e2 r2 => h2 H2 (e.trans e2) _ fun y H3 e3 r3 => hr H3 ((e.trans e2).trans e3) x y (r2.mono (.of (m.ex (e.trans e2)) e3)) r3 _ fun v H4 e4 r4 => by
    cases r4
    refine ⟨a, rfl, ?_⟩
    have ee := ((e.trans e2).trans e3).trans e4
    cases a with
    | false => exact q _ H4 ((e2.trans e3).trans e4) (.bl _)
    | true => exact h3 rfl H4 ee _ fun z H5 e5 r5 => hr' rfl H5 (ee.trans e5) y z (r3.mono (.of (m.ex ((e.trans e2).trans e3)) (e4.trans e5))) r5 Q fun v H6 e6 r6 => q v H6 (((e2.trans e3).trans e4).trans (e5.trans e6)) r6
end
end Nv
set_option Elab.async false
set_option linter.all false
set_option maxRecDepth 100000
set_option maxHeartbeats 4000000
/-! What is walked: lists, tuples, texts; enumerate and zip of them; enumerate of a zip. -/
namespace NvZ
open PySem
/-- a zip, its pair out or not -/
abbrev ZipA (h : Heap) (z TI TO : Addr) (f0 : Value) (b : Bool) : Prop :=
  h.get? z = some { cls := .type "zip", dict := none, data := .fields #[f0, .bool b, .bool false, .ref TI, .ref TO], slots := #[] }
def Zf (v : Value) : Prop := v = .none ∨ ∃ T : Addr, v = rawInt T
section
variable {prog : Program} {w : World} {A : Around} {E : Value → Shared → Prop} {s : Shared} {z TI TO i1 i2 : Addr} {fp1 fp2 : List Addr} {n1 n2 i : Nat} {P1 P2 : Nat → Value → Prop} {St1 St2 : Nat → Heap → Prop} {a1 a2 f0 : Value} {b : Bool}
theorem alive_any {a : Addr} {Q : Option Obj → Shared → Prop} (h : Q (s.heap.get? a) s) : wpAny (model prog w) A (loadIfAlive a) Q E s := fun _ _ _ => h
theorem zip_isfree {Q : Bool → Shared → Prop} (hz : ZipA s.heap z TI TO f0 b) (hf : Zf f0) (h : ∀ fr b' h', ZipA h' z TI TO f0 b' → Heap.SameBut z s.heap h' → Q fr { s with heap := h' }) :
    wpAny (model prog w) A (Builtin.SmallTypes.ownedTupleIsFree (.ref z)) Q E s := by
  unfold Builtin.SmallTypes.ownedTupleIsFree
  rcases hf with rfl | ⟨T, rfl⟩
  · exact wpAny_bind (wpAny_field hz rfl (x := .none) rfl (wpAny_pure (h true b s.heap hz (Heap.SameBut.refl _ _))))
  · refine wpAny_bind (wpAny_field hz rfl (x := rawInt T) rfl ?_)
    show wpAny _ _ (loadIfAlive ((T : Int).toNat) >>= _) _ _ _
    rw [Int.toNat_natCast]
    refine wpAny_bind (alive_any ?_)
    cases hT : s.heap.get? T with
    | none =>
      simp only [Option.isNone_none, if_true]
      exact wpAny_pure (h true b s.heap hz (Heap.SameBut.refl _ _))
    | some o =>
      simp only [Option.isNone_some, Bool.false_eq_true, if_false]
      refine wpAny_bind (wpAny_field hz rfl (x := .bool b) rfl ?_)
      cases b with
      | true =>
        rw [if_neg (show ¬ ((Value.bool true != Value.bool true) = true) from Bool.false_ne_true)]
        exact wpAny_pure (h false true s.heap hz (Heap.SameBut.refl _ _))
      | false =>
        rw [if_pos (show (Value.bool false != Value.bool true) = true from rfl)]
        exact wpAny_bind (wpAny_setField_rec hz (by simp) fun h₁ hz₁ hs₁ => wpAny_pure (h false true h₁ hz₁ hs₁))

theorem zip_next_item {Q : Value → Shared → Prop} (S : ZipSep2 z TI TO i1 i2 fp1 fp2) (D1 : Draws prog w A i1 fp1 n1 P1 St1) (D2 : Draws prog w A i2 fp2 n2 P2 St2)
    (hz : ZipA s.heap z TI TO f0 b) (hf : Zf f0) (hTI : IsTupOf2 s.heap TI (.ref i1) (.ref i2)) (hTO : IsTupOf2 s.heap TO a1 a2) (st1 : St1 i s.heap) (st2 : St2 i s.heap) (hlt1 : i < n1) (hlt2 : i < n2)
    (hQ : ∀ x1 x2 h' tk f0' b', P1 i x1 → P2 i x2 → ZipA h' z TI TO f0' b' → Zf f0' → (∃ a1 a2, IsTupOf2 h' TO a1 a2) → St1 (i + 1) h' → St2 (i + 1) h' → IsTupOf2 h' s.heap.objs.size x1 x2 → h'.objs.size = s.heap.objs.size + 1 →
      (∀ c o, c ≠ z → c ≠ TO → c ≠ i1 → c ≠ i2 → s.heap.get? c = some o → h'.get? c = some o) → Q (.ref s.heap.objs.size) { s with heap := h', toks := tk }) :
    wpAny (model prog w) A (Builtin.«zip.__next__» ⟨[.ref z], []⟩) (fun fin s' => ∃ v, fin = .done (.ret v) ∧ Q v s') E s := by
  obtain ⟨hp, g, d, tk0, os⟩ := s
  show wpAny _ _ (field (.ref z) 2 >>= _) _ _ _
  refine wpAny_bind (wpAny_field hz rfl (x := .bool false) rfl ?_)
  show wpAny _ _ (field (.ref z) 3 >>= _) _ _ _
  refine wpAny_bind (wpAny_field hz rfl (x := .ref TI) rfl ?_)
  refine wpAny_bind (wpAny_seqItems hTI rfl ?_)
  show wpAny _ _ (Builtin.SmallTypes.ownedTupleIsFree (.ref z) >>= _) _ _ _
  refine wpAny_bind (zip_isfree hz hf fun fr b' h0 hz' hs' => ?_)
  replace hs' : Heap.SameBut z hp h0 := hs'
  cases fr with
  | true =>
    simp only [if_true]
    refine wpAny_bind (wpAny_rule ?_)
    refine wpAny_bind (wpAny_field (s := ⟨h0, g, d, tk0, os⟩) hz' rfl (x := .ref TO) rfl ?_)
    refine wpAny_bind (wpAny_setField_rec (s := ⟨h0, g, d, tk0, os⟩) hz' (by simp) fun g0 hz0 hs0' => ?_)
    replace hz0 : ZipA g0 z TI TO .ellipsis b' := hz0
    have hs0 : Heap.SameBut z hp g0 := ⟨hs0'.1.trans hs'.1, fun c hc => (hs0'.2 c hc).trans (hs'.2 c hc)⟩
    refine wpAny_bind ?_
    simp only [List.zipIdx_cons, List.zipIdx_nil, List.forIn_cons, List.forIn_nil]
    refine wpAny_bind (wpAny_bind (wpAny_onRaise ?_))
    show wpAny _ _ (Builtin.SmallTypes.nextOf (.ref i1) >>= _) _ _ ⟨g0, g, d, tk0, os⟩
    refine wpAny_bind (D1.item i _ _ _ hlt1 (D1.over st1 hs0 S.zf1) fun x1 p1 tk1 hx1 sn1 hp1 => wpAny_pure ?_)
    replace hp1 : Heap.SameBut i1 g0 p1 := hp1
    have hU1 : IsTupOf2 p1 TO a1 a2 := hp1.extBut _ _ S.Ti1 (hs0.extBut _ _ S.TOz hTO)
    refine wpAny_bind (wpAny_seqItems (s := ⟨p1, g, d, tk1, os⟩) hU1 rfl ?_)
    refine wpAny_bind (updateSeq_IsTupOf2 (s := ⟨p1, g, d, tk1, os⟩) hU1 fun g1 hT1 hs1 => ?_)
    replace hT1 : IsTupOf2 g1 TO x1 a2 := hT1
    replace hs1 : Heap.SameBut TO p1 g1 := hs1
    refine wpAny_bind (wpAny_letGo (wpAny_pure ?_))
    refine wpAny_bind (wpAny_bind (wpAny_onRaise ?_))
    show wpAny _ _ (Builtin.SmallTypes.nextOf (.ref i2) >>= _) _ _ ⟨g1, g, d, tk1, os⟩
    refine wpAny_bind (D2.item i _ _ _ hlt2 (D2.over (D2.over (D2.over st2 hs0 S.zf2) hp1 S.sep1_2) hs1 S.Tf2) fun x2 p2 tk2 hx2 sn2 hp2 => wpAny_pure ?_)
    replace hp2 : Heap.SameBut i2 g1 p2 := hp2
    have hU2 : IsTupOf2 p2 TO x1 a2 := hp2.extBut _ _ S.Ti2 hT1
    refine wpAny_bind (wpAny_seqItems (s := ⟨p2, g, d, tk2, os⟩) hU2 rfl ?_)
    refine wpAny_bind (updateSeq_IsTupOf2 (s := ⟨p2, g, d, tk2, os⟩) hU2 fun g2 hT2 hs2 => ?_)
    replace hT2 : IsTupOf2 g2 TO x1 x2 := hT2
    replace hs2 : Heap.SameBut TO p2 g2 := hs2
    refine wpAny_bind (wpAny_letGo (wpAny_pure (wpAny_pure ?_)))
    refine wpAny_bind (wpAny_seqItems (s := ⟨g2, g, d, tk2, os⟩) hT2 rfl ?_)
    refine wpAny_bind (wpAny_newTuple ?_)
    have hsz : g2.objs.size = hp.objs.size := by rw [hs2.1, hp2.1, hs1.1, hp1.1, hs0.1]
    have hzz : ZipA g2 z TI TO .ellipsis b' := (hs2.extBut _ _ S.TOz.symm (hp2.extBut _ _ S.zi2 (hs1.extBut _ _ S.TOz.symm (hp1.extBut _ _ S.zi1 hz0))))
    have hkk : ∀ c o, c ≠ z → c ≠ TO → c ≠ i1 → c ≠ i2 → hp.get? c = some o → g2.get? c = some o := fun c o cz cT c1 c2 e =>
      (hs2.extBut _ _ cT (hp2.extBut _ _ c2 (hs1.extBut _ _ cT (hp1.extBut _ _ c1 (hs0.extBut _ _ cz e)))))
    have hj1 : St1 (i + 1) g2 := (D1.over (D1.over (D1.over sn1 hs1 S.Tf1) hp2 S.sep2_1) hs2 S.Tf1)
    have hj2 : St2 (i + 1) g2 := (D2.over sn2 hs2 S.Tf2)
    have hzlt : z < g2.objs.size := Heap.lt_size hzz
    show wpAny _ _ (Builtin.SmallTypes.ownedTupleHandOut (.ref z) (.ref g2.objs.size) >>= _) _ _ ⟨g2.push { cls := .type "tuple", data := .seq #[x1, x2] }, g, d, tk2, os⟩
    refine wpAny_bind ?_
    unfold Builtin.SmallTypes.ownedTupleHandOut
    have hz₆ : ZipA (g2.push { cls := .type "tuple", data := .seq #[x1, x2] }) z TI TO .ellipsis b' := Heap.get?_push_of_some _ hzz
    refine wpAny_bind (wpAny_setField_rec hz₆ (by simp) fun h₇ hz₇ hs₇ => ?_)
    replace hz₇ : ZipA h₇ z TI TO (rawInt g2.objs.size) b' := hz₇
    refine wpAny_setField_rec hz₇ (by simp) fun h₈ hz₈ hs₈ => ?_
    replace hz₈ : ZipA h₈ z TI TO (rawInt g2.objs.size) false := hz₈
    replace hs₇ : Heap.SameBut z (g2.push { cls := .type "tuple", data := .seq #[x1, x2] }) h₇ := hs₇
    replace hs₈ : Heap.SameBut z h₇ h₈ := hs₈
    have up : ∀ c o, c ≠ z → g2.get? c = some o → h₈.get? c = some o := fun c o c1 e => hs₈.extBut _ _ c1 (hs₇.extBut _ _ c1 (Heap.get?_push_of_some _ e))
    have hT₈ : IsTupOf2 h₈ g2.objs.size x1 x2 := hs₈.extBut _ _ (Nat.ne_of_gt hzlt) (hs₇.extBut _ _ (Nat.ne_of_gt hzlt) (Heap.get?_push_size _ rfl))
    have hz8 : h₈.objs.size = g2.objs.size + 1 := by rw [hs₈.1, hs₇.1, Heap.size_push]
    rw [hsz] at hz₈ hT₈ hz8
    refine wpAny_pure ⟨_, rfl, ?_⟩
    show Q (.ref g2.objs.size) ⟨h₈, g, d, tk2, os⟩
    rw [hsz]
    exact hQ x1 x2 h₈ tk2 _ _ hx1 hx2 hz₈ (.inr ⟨_, rfl⟩) ⟨_, _, up _ _ S.TOz hT2⟩ (D1.frame _ _ _ hj1 fun b hb o e => up b o (fun q => S.zf1 (q ▸ hb)) e) (D2.frame _ _ _ hj2 fun b hb o e => up b o (fun q => S.zf2 (q ▸ hb)) e) hT₈ hz8 fun c o cz cT c1 c2 e => up c o cz (hkk c o cz cT c1 c2 e)
  | false =>
    simp only [Bool.false_eq_true, if_false]
    refine wpAny_bind ?_
    rw [← Array.forIn_toList]
    simp only [List.forIn_cons, List.forIn_nil]
    refine wpAny_bind (wpAny_bind (wpAny_holding ?_))
    show wpAny _ _ (Builtin.SmallTypes.nextOf (.ref i1) >>= _) _ _ ⟨h0, g, d, tk0, os⟩
    refine wpAny_bind (D1.item i _ _ _ hlt1 (D1.over st1 hs' S.zf1) fun x1 p1 tk1 hx1 sn1 hp1 => wpAny_pure ?_)
    replace hp1 : Heap.SameBut i1 h0 p1 := hp1
    refine wpAny_pure ?_
    refine wpAny_bind (wpAny_bind (wpAny_holding ?_))
    show wpAny _ _ (Builtin.SmallTypes.nextOf (.ref i2) >>= _) _ _ ⟨p1, g, d, tk1, os⟩
    refine wpAny_bind (D2.item i _ _ _ hlt2 (D2.over (D2.over st2 hs' S.zf2) hp1 S.sep1_2) fun x2 p2 tk2 hx2 sn2 hp2 => wpAny_pure ?_)
    replace hp2 : Heap.SameBut i2 p1 p2 := hp2
    refine wpAny_pure (wpAny_pure ?_)
    show wpAny _ _ (newTuple [x1, x2] >>= _) _ _ ⟨p2, g, d, tk2, os⟩
    refine wpAny_bind (wpAny_newTuple ?_)
    have hsz : p2.objs.size = hp.objs.size := by rw [hp2.1, hp1.1, hs'.1]
    have hzz : ZipA p2 z TI TO f0 b' := hp2.extBut _ _ S.zi2 (hp1.extBut _ _ S.zi1 hz')
    have hkk : ∀ c o, c ≠ z → c ≠ i1 → c ≠ i2 → hp.get? c = some o → p2.get? c = some o := fun c o cz c1 c2 e => hp2.extBut _ _ c2 (hp1.extBut _ _ c1 (hs'.extBut _ _ cz e))
    have hj1 : St1 (i + 1) p2 := D1.over sn1 hp2 S.sep2_1
    have up : ∀ c o, p2.get? c = some o → (p2.push { cls := .type "tuple", data := .seq #[x1, x2] }).get? c = some o := fun c o e => Heap.get?_push_of_some _ e
    have hT8 : IsTupOf2 (p2.push { cls := .type "tuple", data := .seq #[x1, x2] }) p2.objs.size x1 x2 := Heap.get?_push_size _ rfl
    have hz8 : (p2.push { cls := .type "tuple", data := .seq #[x1, x2] }).objs.size = p2.objs.size + 1 := Heap.size_push ..
    refine wpAny_pure ⟨_, rfl, ?_⟩
    show Q (.ref p2.objs.size) _
    rw [hsz] at hT8 hz8
    rw [hsz]
    exact hQ x1 x2 _ tk2 f0 b' hx1 hx2 (up _ _ hzz) hf ⟨_, _, up _ _ (hkk _ _ S.TOz S.Ti1 S.Ti2 hTO)⟩ (D1.frame _ _ _ hj1 fun b hb o e => up b o e) (D2.frame _ _ _ sn2 fun b hb o e => up b o e) hT8 hz8 fun c o cz cT c1 c2 e => up c o (hkk c o cz c1 c2 e)

theorem zip_next_end {Q : Fin → Shared → Prop} (S : ZipSep2 z TI TO i1 i2 fp1 fp2) (D1 : Draws prog w A i1 fp1 n1 P1 St1) (D2 : Draws prog w A i2 fp2 n2 P2 St2)
    (hz : ZipA s.heap z TI TO f0 b) (hf : Zf f0) (hTI : IsTupOf2 s.heap TI (.ref i1) (.ref i2)) (hTO : IsTupOf2 s.heap TO a1 a2) (st1 : St1 i s.heap) (st2 : St2 i s.heap) (hle1 : i ≤ n1) (hle2 : i ≤ n2) (hend : i = n1 ∨ i = n2)
    (hE : ∀ h' tk e, (∀ c o, c ≠ z → c ≠ TO → c ≠ i1 → c ≠ i2 → s.heap.get? c = some o → h'.get? c = some o) → (∃ o, h'.get? e = some o ∧ o.cls = .type "StopIteration") → E (.ref e) { s with heap := h', toks := tk }) :
    wpAny (model prog w) A (Builtin.«zip.__next__» ⟨[.ref z], []⟩) Q E s := by
  obtain ⟨hp, g, d, tk0, os⟩ := s
  show wpAny _ _ (field (.ref z) 2 >>= _) _ _ _
  refine wpAny_bind (wpAny_field hz rfl (x := .bool false) rfl ?_)
  show wpAny _ _ (field (.ref z) 3 >>= _) _ _ _
  refine wpAny_bind (wpAny_field hz rfl (x := .ref TI) rfl ?_)
  refine wpAny_bind (wpAny_seqItems hTI rfl ?_)
  show wpAny _ _ (Builtin.SmallTypes.ownedTupleIsFree (.ref z) >>= _) _ _ _
  refine wpAny_bind (zip_isfree hz hf fun fr b' h0 hz' hs' => ?_)
  replace hs' : Heap.SameBut z hp h0 := hs'
  cases fr with
  | true =>
    simp only [if_true]
    refine wpAny_bind (wpAny_rule ?_)
    refine wpAny_bind (wpAny_field (s := ⟨h0, g, d, tk0, os⟩) hz' rfl (x := .ref TO) rfl ?_)
    refine wpAny_bind (wpAny_setField_rec (s := ⟨h0, g, d, tk0, os⟩) hz' (by simp) fun g0 hz0 hs0' => ?_)
    replace hz0 : ZipA g0 z TI TO .ellipsis b' := hz0
    have hs0 : Heap.SameBut z hp g0 := ⟨hs0'.1.trans hs'.1, fun c hc => (hs0'.2 c hc).trans (hs'.2 c hc)⟩
    refine wpAny_bind ?_
    simp only [List.zipIdx_cons, List.zipIdx_nil, List.forIn_cons, List.forIn_nil]
    refine wpAny_bind (wpAny_bind (wpAny_onRaise ?_))
    show wpAny _ _ (Builtin.SmallTypes.nextOf (.ref i1) >>= _) _ _ ⟨g0, g, d, tk0, os⟩
    by_cases hlt1 : i < n1
    · refine wpAny_bind (D1.item i _ _ _ hlt1 (D1.over st1 hs0 S.zf1) fun x1 p1 tk1 hx1 sn1 hp1 => wpAny_pure ?_)
      replace hp1 : Heap.SameBut i1 g0 p1 := hp1
      have hU1 : IsTupOf2 p1 TO a1 a2 := hp1.extBut _ _ S.Ti1 (hs0.extBut _ _ S.TOz hTO)
      refine wpAny_bind (wpAny_seqItems (s := ⟨p1, g, d, tk1, os⟩) hU1 rfl ?_)
      refine wpAny_bind (updateSeq_IsTupOf2 (s := ⟨p1, g, d, tk1, os⟩) hU1 fun g1 hT1 hs1 => ?_)
      replace hT1 : IsTupOf2 g1 TO x1 a2 := hT1
      replace hs1 : Heap.SameBut TO p1 g1 := hs1
      refine wpAny_bind (wpAny_letGo (wpAny_pure ?_))
      have hi2 : i = n2 := by omega
      refine wpAny_bind (wpAny_bind (wpAny_onRaise ?_))
      show wpAny _ _ (Builtin.SmallTypes.nextOf (.ref i2) >>= _) _ _ ⟨g1, g, d, tk1, os⟩
      refine wpAny_bind (D2.done ⟨g1, g, d, tk1, os⟩ _ _ (by rw [← hi2]; exact (D2.over (D2.over (D2.over st2 hs0 S.zf2) hp1 S.sep1_2) hs1 S.Tf2)) fun q e hq he => ?_)
      replace hq : Heap.ExtBut i2 g1 q := hq
      obtain ⟨oe, hoe, hce⟩ := he
      replace hoe : q.get? e = some oe := hoe
      have hzq : ZipA q z TI TO .ellipsis b' := hq _ _ S.zi2 (hs1.extBut _ _ S.TOz.symm (hp1.extBut _ _ S.zi1 hz0))
      have hez : e ≠ z := fun x => by subst x; rw [hzq] at hoe; cases hoe; simp at hce
      refine wpAny_setField_rec (s := ⟨q, g, d, tk1, os⟩) hzq (by simp) fun q' _ hq' => ?_
      replace hq' : Heap.SameBut z q q' := hq'
      exact hE q' tk1 e (fun c o cz cT c1 c2 x => hq'.extBut _ _ cz (hq _ _ c2 (hs1.extBut _ _ cT (hp1.extBut _ _ c1 (hs0.extBut _ _ cz x))))) ⟨oe, hq'.extBut _ _ hez hoe, hce⟩
    · have hi1 : i = n1 := by omega
      refine wpAny_bind (D1.done ⟨g0, g, d, tk0, os⟩ _ _ (by rw [← hi1]; exact (D1.over st1 hs0 S.zf1)) fun q e hq he => ?_)
      replace hq : Heap.ExtBut i1 g0 q := hq
      obtain ⟨oe, hoe, hce⟩ := he
      replace hoe : q.get? e = some oe := hoe
      have hzq : ZipA q z TI TO .ellipsis b' := hq _ _ S.zi1 hz0
      have hez : e ≠ z := fun x => by subst x; rw [hzq] at hoe; cases hoe; simp at hce
      refine wpAny_setField_rec (s := ⟨q, g, d, tk0, os⟩) hzq (by simp) fun q' _ hq' => ?_
      replace hq' : Heap.SameBut z q q' := hq'
      exact hE q' tk0 e (fun c o cz cT c1 c2 x => hq'.extBut _ _ cz (hq _ _ c1 (hs0.extBut _ _ cz x))) ⟨oe, hq'.extBut _ _ hez hoe, hce⟩
  | false =>
    simp only [Bool.false_eq_true, if_false]
    refine wpAny_bind ?_
    rw [← Array.forIn_toList]
    simp only [List.forIn_cons, List.forIn_nil]
    refine wpAny_bind (wpAny_bind (wpAny_holding ?_))
    show wpAny _ _ (Builtin.SmallTypes.nextOf (.ref i1) >>= _) _ _ ⟨h0, g, d, tk0, os⟩
    by_cases hlt1 : i < n1
    · refine wpAny_bind (D1.item i _ _ _ hlt1 (D1.over st1 hs' S.zf1) fun x1 p1 tk1 hx1 sn1 hp1 => wpAny_pure ?_)
      replace hp1 : Heap.SameBut i1 h0 p1 := hp1
      refine wpAny_pure ?_
      have hi2 : i = n2 := by omega
      refine wpAny_bind (wpAny_bind (wpAny_holding ?_))
      show wpAny _ _ (Builtin.SmallTypes.nextOf (.ref i2) >>= _) _ _ ⟨p1, g, d, tk1, os⟩
      refine wpAny_bind (D2.done ⟨p1, g, d, tk1, os⟩ _ _ (by rw [← hi2]; exact (D2.over (D2.over st2 hs' S.zf2) hp1 S.sep1_2)) fun q e hq he => ?_)
      replace hq : Heap.ExtBut i2 p1 q := hq
      exact hE q tk1 e (fun c o cz cT c1 c2 x => hq _ _ c2 (hp1.extBut _ _ c1 (hs'.extBut _ _ cz x))) he
    · have hi1 : i = n1 := by omega
      refine wpAny_bind (D1.done ⟨h0, g, d, tk0, os⟩ _ _ (by rw [← hi1]; exact (D1.over st1 hs' S.zf1)) fun q e hq he => ?_)
      replace hq : Heap.ExtBut i1 h0 q := hq
      exact hE q tk0 e (fun c o cz cT c1 c2 x => hq _ _ c1 (hs'.extBut _ _ cz x)) he

/-- enumerate over an iterator that may lay objects of its own -/
theorem enum_next_item {e it : Addr} {n : Int} {P : Value → Nat → Heap → Prop} {ch : List Addr} {old : Value} {Q : Value → Shared → Prop} (he : IsEnum s.heap e it n old) (hne : e ∉ ch)
    (inn : ∀ (Q' : Value → Shared → Prop) (E' : Value → Shared → Prop), (∀ x h₁ tk, P x tk h₁ → s.heap.objs.size ≤ h₁.objs.size → (∀ b o, b ∉ ch → s.heap.get? b = some o → h₁.get? b = some o) → Q' x { s with heap := h₁, toks := tk }) →
      wpAny (model prog w) A (Builtin.SmallTypes.nextOf (.ref it)) Q' E' s)
    (hQ : ∀ x h₁ h' tk, P x tk h₁ → s.heap.objs.size ≤ h₁.objs.size → (∀ b o, b ∉ ch → s.heap.get? b = some o → h₁.get? b = some o) → IsEnumOut h' e it (n + 1) x h₁.objs.size →
      h'.get? h₁.objs.size = some { cls := .type "tuple", data := .seq #[.int n tk, x] } → (∀ b o, b ≠ e → h₁.get? b = some o → h'.get? b = some o) → Q (.ref h₁.objs.size) { s with heap := h', toks := tk + 1 }) :
    wpAny (model prog w) A (Builtin.«enumerate.__next__» ⟨[.ref e], []⟩) (fun fin s' => ∃ v, fin = .done (.ret v) ∧ Q v s') E s := by
  obtain ⟨hp, g, d, tk₀, os⟩ := s
  show wpAny _ _ (field (.ref e) 2 >>= _) _ _ _
  refine wpAny_bind (wpAny_field he rfl (x := .ref it) rfl ?_)
  refine wpAny_bind (inn _ _ fun x h₁ tk hPx hsz hk => ?_)
  have he₁ : IsEnum h₁ e it n old := hk e _ hne he
  show wpAny _ _ (field (.ref e) 3 >>= _) _ _ ⟨h₁, g, d, tk, os⟩
  refine wpAny_bind (wpAny_field he₁ rfl (x := rawInt n) rfl ?_)
  show wpAny _ _ (field (.ref e) 4 >>= _) _ _ ⟨h₁, g, d, tk, os⟩
  refine wpAny_bind (wpAny_field he₁ rfl (x := .none) rfl ?_)
  show wpAny _ _ (mkInt n >>= _) _ _ ⟨h₁, g, d, tk, os⟩
  refine wpAny_bind (wpAny_mkInt ?_)
  show wpAny _ _ (setField (.ref e) 3 (rawInt (n + 1)) >>= _) _ _ ⟨h₁, g, d, tk + 1, os⟩
  refine wpAny_bind (wpAny_setField_rec he₁ (by simp) fun h₂ he₂ hs₂ => ?_)
  replace hs₂ : Heap.SameBut e h₁ h₂ := hs₂
  replace he₂ : IsEnum h₂ e it (n + 1) old := he₂
  show wpAny _ _ (setField (.ref e) 4 .none >>= _) _ _ ⟨h₂, g, d, tk + 1, os⟩
  refine wpAny_bind (wpAny_setField_rec he₂ (by simp) fun h₃ he₃ hs₃ => ?_)
  replace hs₃ : Heap.SameBut e h₂ h₃ := hs₃
  replace he₃ : IsEnum h₃ e it (n + 1) old := he₃
  show wpAny _ _ (newTuple [.int n tk, x] >>= _) _ _ ⟨h₃, g, d, tk + 1, os⟩
  refine wpAny_bind (wpAny_newTuple ?_)
  have he₄ : IsEnum (h₃.push { cls := .type "tuple", data := .seq #[.int n tk, x] }) e it (n + 1) old := Heap.get?_push_of_some _ he₃
  generalize hh₄ : h₃.push { cls := .type "tuple", data := .seq #[.int n tk, x] } = h₄ at he₄
  have hsz3 : h₃.objs.size = h₁.objs.size := by rw [hs₃.1, hs₂.1]
  have hel : e < h₁.objs.size := Heap.lt_size he₁
  have ht₄ : h₄.get? h₁.objs.size = some { cls := .type "tuple", data := .seq #[.int n tk, x] } := by rw [← hh₄, ← hsz3]; exact Heap.get?_push_size _ rfl
  have hk₄ : ∀ b o, b ≠ e → h₁.get? b = some o → h₄.get? b = some o := fun b o hbe hb => by
    rw [← hh₄]; exact Heap.get?_push_of_some _ (hs₃.extBut b o hbe (hs₂.extBut b o hbe hb))
  show wpAny _ _ (Builtin.SmallTypes.ownedTupleIsFree (.ref e) >>= _) _ _ ⟨h₄, g, d, tk + 1, os⟩
  rw [hsz3]
  clear hh₄ he₃ hs₃ he₂ hs₂ hsz3 h₃ h₂
  refine wpAny_bind ?_
  unfold Builtin.SmallTypes.ownedTupleIsFree
  refine wpAny_bind (wpAny_field he₄ rfl (x := .none) rfl (wpAny_pure ?_))
  simp only [if_true]
  refine wpAny_bind (wpAny_rule ?_)
  refine wpAny_bind (wpAny_field he₄ rfl (x := old) rfl ?_)
  refine wpAny_bind (wpAny_setField_rec he₄ (by simp) fun h₅ he₅ hs₅ => ?_)
  replace hs₅ : Heap.SameBut e h₄ h₅ := hs₅
  replace he₅ : IsEnum h₅ e it (n + 1) x := he₅
  show wpAny _ _ (Builtin.SmallTypes.ownedTupleHandOut (.ref e) (.ref h₁.objs.size) >>= _) _ _ ⟨h₅, g, d, tk + 1, os⟩
  refine wpAny_bind ?_
  unfold Builtin.SmallTypes.ownedTupleHandOut
  refine wpAny_bind (wpAny_setField_rec he₅ (by simp) fun h₆ he₆ hs₆ => ?_)
  replace hs₆ : Heap.SameBut e h₅ h₆ := hs₆
  replace he₆ : IsEnumOut h₆ e it (n + 1) x h₁.objs.size := he₆
  refine wpAny_setField_rec he₆ (by simp) fun h₇ he₇ hs₇ => ?_
  replace hs₇ : Heap.SameBut e h₆ h₇ := hs₇
  replace he₇ : IsEnumOut h₇ e it (n + 1) x h₁.objs.size := he₇
  exact wpAny_bind (wpAny_letGo (wpAny_pure ⟨_, rfl, hQ x h₁ h₇ tk hPx hsz hk he₇ (hs₇.extBut _ _ (Nat.ne_of_gt hel) (hs₆.extBut _ _ (Nat.ne_of_gt hel) (hs₅.extBut _ _ (Nat.ne_of_gt hel) ht₄)))
    fun b o hbe hb => hs₇.extBut b o hbe (hs₆.extBut b o hbe (hs₅.extBut b o hbe (hk₄ b o hbe hb)))⟩))
theorem pyNext_enum_item {e it : Addr} {n : Int} {P : Value → Nat → Heap → Prop} {ch : List Addr} {old : Value} {Q : Option Value → Shared → Prop} (he : IsEnum s.heap e it n old) (hne : e ∉ ch)
    (inn : ∀ (Q' : Value → Shared → Prop) (E' : Value → Shared → Prop), (∀ x h₁ tk, P x tk h₁ → s.heap.objs.size ≤ h₁.objs.size → (∀ b o, b ∉ ch → s.heap.get? b = some o → h₁.get? b = some o) → Q' x { s with heap := h₁, toks := tk }) →
      wpAny (model prog w) A.in1 (Builtin.SmallTypes.nextOf (.ref it)) Q' E' s)
    (hQ : ∀ x h₁ h' tk, P x tk h₁ → s.heap.objs.size ≤ h₁.objs.size → (∀ b o, b ∉ ch → s.heap.get? b = some o → h₁.get? b = some o) → IsEnumOut h' e it (n + 1) x h₁.objs.size →
      h'.get? h₁.objs.size = some { cls := .type "tuple", data := .seq #[.int n tk, x] } → (∀ b o, b ≠ e → h₁.get? b = some o → h'.get? b = some o) → Q (some (.ref h₁.objs.size)) { s with heap := h', toks := tk + 1 }) :
    wpAny (model prog w) A (pyNext (.ref e)) Q E s := by
  have hT : s.TypeIs (.ref e) "enumerate" := ⟨_, he, rfl⟩
  unfold pyNext
  exact wpAny_bind (wpAny_attempt (wpAny_callSpecial?_slot (name := Str.ofString "__next__") hT F.slot_enumerate_next
    (wpAny_call_entry F.slot_enumerate_next hT F.entry_enumerate_next
      (enum_next_item he hne inn fun x h1 h' tk a b c d k q => wpAny_pure (hQ x h1 h' tk a b c d k q)) (F.args_enumerate_next_1 _))))
theorem pyNext_enum_end {e it : Addr} {n : Int} {ch : List Addr} {old : Value} {Q : Option Value → Shared → Prop} (he : IsEnum s.heap e it n old)
    (inn : ∀ (Q' : Value → Shared → Prop) (E' : Value → Shared → Prop), (∀ h' tk x, (∀ b o, b ∉ ch → s.heap.get? b = some o → h'.get? b = some o) → (∃ o, h'.get? x = some o ∧ o.cls = .type "StopIteration") → E' (.ref x) { s with heap := h', toks := tk }) →
      wpAny (model prog w) A.in1 (Builtin.SmallTypes.nextOf (.ref it)) Q' E' s)
    (hQ : ∀ h' tk, (∀ b o, b ∉ ch → s.heap.get? b = some o → h'.get? b = some o) → Q none { s with heap := h', toks := tk }) : wpAny (model prog w) A (pyNext (.ref e)) Q E s := by
  have hT : s.TypeIs (.ref e) "enumerate" := ⟨_, he, rfl⟩
  unfold pyNext
  refine wpAny_bind (wpAny_attempt (wpAny_callSpecial?_slot (name := Str.ofString "__next__") hT F.slot_enumerate_next
    (wpAny_call_entry F.slot_enumerate_next hT F.entry_enumerate_next ?_ (F.args_enumerate_next_1 _))))
  show wpAny _ _ (field (.ref e) 2 >>= _) _ _ _
  refine wpAny_bind (wpAny_field he rfl (x := .ref it) rfl ?_)
  refine wpAny_bind (inn _ _ fun h' tk x he' hx' => ?_)
  obtain ⟨o, ho, hc⟩ := hx'
  refine wpAny_bind (wpAny_isInstance (T := "StopIteration") (b := true) ⟨o, ho, hc⟩ isSubtype_stop ?_)
  exact wpAny_pure (hQ _ _ he')
/-- the next of a zip -/
theorem nextOf_zip_item {Q : Value → Shared → Prop} (S : ZipSep2 z TI TO i1 i2 fp1 fp2) (D1 : Draws prog w A.in1 i1 fp1 n1 P1 St1) (D2 : Draws prog w A.in1 i2 fp2 n2 P2 St2)
    (hz : ZipA s.heap z TI TO f0 b) (hf : Zf f0) (hTI : IsTupOf2 s.heap TI (.ref i1) (.ref i2)) (hTO : IsTupOf2 s.heap TO a1 a2) (st1 : St1 i s.heap) (st2 : St2 i s.heap) (hlt1 : i < n1) (hlt2 : i < n2)
    (hQ : ∀ x1 x2 h' tk f0' b', P1 i x1 → P2 i x2 → ZipA h' z TI TO f0' b' → Zf f0' → (∃ a1 a2, IsTupOf2 h' TO a1 a2) → St1 (i + 1) h' → St2 (i + 1) h' → IsTupOf2 h' s.heap.objs.size x1 x2 → h'.objs.size = s.heap.objs.size + 1 →
      (∀ c o, c ≠ z → c ≠ TO → c ≠ i1 → c ≠ i2 → s.heap.get? c = some o → h'.get? c = some o) → Q (.ref s.heap.objs.size) { s with heap := h', toks := tk }) :
    wpAny (model prog w) A (Builtin.SmallTypes.nextOf (.ref z)) Q E s := by
  have hT : s.TypeIs (.ref z) "zip" := ⟨_, hz, rfl⟩
  unfold Builtin.SmallTypes.nextOf
  exact wpAny_bind (wpAny_callSpecial?_slot (name := Str.ofString "__next__") hT F.slot_zip_next (wpAny_call_entry F.slot_zip_next hT F.entry_zip_next
    (zip_next_item S D1 D2 hz hf hTI hTO st1 st2 hlt1 hlt2 fun x1 x2 h' tk f0' b' y1 y2 b1 b2 b3 d1 d2 b5 b6 b7 => wpAny_pure (hQ x1 x2 h' tk f0' b' y1 y2 b1 b2 b3 d1 d2 b5 b6 b7)) (F.args_zip_next_1 _)))
theorem nextOf_zip_end {Q : Value → Shared → Prop} (S : ZipSep2 z TI TO i1 i2 fp1 fp2) (D1 : Draws prog w A.in1 i1 fp1 n1 P1 St1) (D2 : Draws prog w A.in1 i2 fp2 n2 P2 St2)
    (hz : ZipA s.heap z TI TO f0 b) (hf : Zf f0) (hTI : IsTupOf2 s.heap TI (.ref i1) (.ref i2)) (hTO : IsTupOf2 s.heap TO a1 a2) (st1 : St1 i s.heap) (st2 : St2 i s.heap) (hle1 : i ≤ n1) (hle2 : i ≤ n2) (hend : i = n1 ∨ i = n2)
    (hE : ∀ h' tk e, (∀ c o, c ≠ z → c ≠ TO → c ≠ i1 → c ≠ i2 → s.heap.get? c = some o → h'.get? c = some o) → (∃ o, h'.get? e = some o ∧ o.cls = .type "StopIteration") → E (.ref e) { s with heap := h', toks := tk }) :
    wpAny (model prog w) A (Builtin.SmallTypes.nextOf (.ref z)) Q E s := by
  have hT : s.TypeIs (.ref z) "zip" := ⟨_, hz, rfl⟩
  unfold Builtin.SmallTypes.nextOf
  exact wpAny_bind (wpAny_callSpecial?_slot (name := Str.ofString "__next__") hT F.slot_zip_next (wpAny_call_entry F.slot_zip_next hT F.entry_zip_next
    (zip_next_end S D1 D2 hz hf hTI hTO st1 st2 hle1 hle2 hend hE) (F.args_zip_next_1 _)))
theorem letGo_zip {elts : List Expr} {x1 : Nat} {pos : Pos} {T : Addr} {Q : Unit → Shared → Prop} (hz : ZipA s.heap z TI TO f0 b)
    (hQ : ∀ h' f0', ZipA h' z TI TO f0' b → (f0' = f0 ∨ f0' = .none) → Heap.SameBut z s.heap h' → Q () { s with heap := h' }) :
    wpAny (model prog w) A (letOwnedTupleGo (.Tuple elts x1 pos) (.ref z) (.ref T)) Q E s := by
  unfold letOwnedTupleGo
  refine wpAny_bind (wpAny_load hz ?_)
  show wpAny _ _ (if (["enumerate", "zip", "dict_itemiterator", "dict_reverseitemiterator", "odict_iterator", "itertools.zip_longest", "itertools.pairwise"].contains "zip" &&
      (#[f0, .bool b, .bool false, .ref TI, .ref TO] : Array Value)[0]? == some (rawInt T)) = true then _ else _) Q E s
  split
  · refine wpAny_bind (wpAny_rule ?_)
    show wpAny _ _ (setField (.ref z) 0 .none) Q E s
    exact wpAny_setField_rec hz (by simp) fun h' hz' hs' => hQ h' .none hz' (.inr rfl) hs'
  · exact wpAny_pure (hQ s.heap f0 hz (.inl rfl) (Heap.SameBut.refl _ _))
end
theorem Draws.imp {prog : Program} {w : World} {A : Around} {it : Addr} {fp : List Addr} {n : Nat} {P P' : Nat → Value → Prop} {St : Nat → Heap → Prop} (D : Draws prog w A it fp n P St) (h : ∀ i v, P i v → P' i v) : Draws prog w A it fp n P' St :=
  ⟨D.live, D.frame, fun i s Q E hi st hQ => D.item i s Q E hi st fun x h' tk p => hQ x h' tk (h _ _ p), D.done⟩
end NvZ
set_option Elab.async false
set_option linter.all false
set_option maxRecDepth 100000
set_option maxHeartbeats 4000000
/-! The walks over any source: a list, a tuple, a text. -/
namespace NvZ
open PySem PySem.Spec PyProof.Rows L2
inductive Sv where
  | l (a : Addr) | t (a : Addr) | s (x : Str)
def Sv.v : Sv → V
  | .l a => .ref a
  | .t a => .ref a
  | .s x => .str x
def Sv.At (K : PySem.W.Frag) (H : Hp) : Sv → List V → Prop
  | .l a, xs => SqL K H a xs
  | .t a, xs => SqT K H a xs
  | .s x, xs => xs = x.cps.toList.map fun c => .str ⟨#[c]⟩
def Sv.val (k : Sv) (tk : Tok) : Value := match k with
  | .l a => .ref a
  | .t a => .ref a
  | .s x => .str x tk
def Sv.ob (k : Sv) (tk : Tok) : Obj := match k with
  | .l a => { cls := .type "list_iterator", data := .fields #[.ref a, .int 0 0] }
  | .t a => { cls := .type "tuple_iterator", data := .fields #[.ref a, .int 0 0] }
  | .s x => { cls := .type (strIterType x), data := .fields #[.str x tk, .int 0 0] }
def Sv.it (k : Sv) (tk : Tok) (it : Addr) (i : Nat) (h : Heap) : Prop := match k with
  | .l a => h.IsListIter it a i
  | .t a => h.IsTupleIter it a i
  | .s x => h.IsStrIter it (strIterType x) x tk i
def Sv.st (k : Sv) (its : List Value) (h : Heap) : Prop := match k with
  | .l a => h.IsList a its.toArray
  | .t a => h.IsTuple a its.toArray
  | .s _ => True
def Sv.fp : Sv → List Addr
  | .l a => [a]
  | .t a => [a]
  | .s _ => []
theorem Sv.obj {k : Sv} {tk : Tok} {it : Addr} {i : Nat} {h : Heap} (e : k.it tk it i h) : ∃ o, h.get? it = some o ∧ ∀ v, o.data ≠ .cell v := by
  cases k <;> obtain ⟨o, ho, hc, hd⟩ := e <;> exact ⟨o, ho, fun v z => by rw [hd] at z; cases z⟩
theorem Sv.lt {k : Sv} {tk : Tok} {it : Addr} {i : Nat} {h : Heap} (e : k.it tk it i h) : it < h.objs.size := by
  obtain ⟨o, ho, _⟩ := Sv.obj e
  exact Heap.lt_size ho
theorem Sv.keep {k : Sv} {tk : Tok} {it : Addr} {i : Nat} {h h' : Heap} (e : k.it tk it i h) (g : ∀ o, h.get? it = some o → h'.get? it = some o) : k.it tk it i h' := by
  cases k <;> obtain ⟨o, ho, r⟩ := e <;> exact ⟨o, g o ho, r⟩
section
variable {X : Cx} {pins : List (Addr × Obj)} {σ : L2.St} {H : Hp} {s : Shared} {k : Sv} {xs ys : List V}
/-- what a source draws -/
theorem Sv.draws (I : Inv X pins σ H s) (h : k.At X.K H xs) (tk : Tok) : ∃ its : List Value, k.st its s.heap ∧ (∀ a ∈ k.fp, a < s.heap.objs.size) ∧ xs.length ≤ sizeLine + xs.length ∧
    (∀ (o : Heap) , True) ∧ Begins (k.val tk) (k.ob tk) (k.st its) ∧ ∀ (A : Around) (it : Addr), A.handled = none → (∀ a ∈ k.fp, a ≠ it) → Draws X.prog X.w A it (it :: k.fp) xs.length (fun i v => ∃ x, xs[i]? = some x ∧ RelV x v) (fun i h => k.it tk it i h ∧ k.st its h) := by
  cases k with
  | l a =>
    obtain ⟨its, rv, p, hz⟩ := I.list h
    refine ⟨its, p.isList, fun b hb => ?_, Nat.le_add_left _ _, fun _ => trivial, begins_list a _, fun A it hh hne => ?_⟩
    · have e : b = a := by simpa [Sv.fp] using hb
      rw [e]; exact p.lt
    · have D := Draws.list (prog := X.prog) (w := X.w) hh it a (hne a (by simp [Sv.fp])) its.toArray
      have el : its.toArray.size = xs.length := by rw [List.size_toArray, rv.length]
      rw [el] at D
      exact Draws.imp D fun i v e => by
        have e' : its[i]? = some v := by simpa using e
        have hi : i < xs.length := by rw [rv.length]; exact (List.getElem?_eq_some_iff.mp e').1
        obtain ⟨u, hu, ru⟩ := rv.get (x := xs[i]) (i := i) (by simp [hi])
        rw [e'] at hu; cases hu
        exact ⟨xs[i], by simp [hi], ru⟩
  | t a =>
    obtain ⟨its, rv, p, hz⟩ := I.tuple h
    refine ⟨its, p, fun b hb => ?_, Nat.le_add_left _ _, fun _ => trivial, begins_tuple a _, fun A it hh hne => ?_⟩
    · have e : b = a := by simpa [Sv.fp] using hb
      obtain ⟨o, ho, _⟩ := p
      rw [e]; exact Heap.lt_size ho
    · have D := Draws.tuple (prog := X.prog) (w := X.w) hh it a (hne a (by simp [Sv.fp])) its.toArray
      have el : its.toArray.size = xs.length := by rw [List.size_toArray, rv.length]
      rw [el] at D
      exact Draws.imp D fun i v e => by
        have e' : its[i]? = some v := by simpa using e
        have hi : i < xs.length := by rw [rv.length]; exact (List.getElem?_eq_some_iff.mp e').1
        obtain ⟨u, hu, ru⟩ := rv.get (x := xs[i]) (i := i) (by simp [hi])
        rw [e'] at hu; cases hu
        exact ⟨xs[i], by simp [hi], ru⟩
  | s x =>
    have hx : xs = x.cps.toList.map fun c => .str ⟨#[c]⟩ := h
    refine ⟨[], trivial, fun b hb => by simp [Sv.fp] at hb, Nat.le_add_left _ _, fun _ => trivial, ?_, fun A it hh hne => ?_⟩
    · have B := begins_text x tk
      exact ⟨fun prog w A E s Q _ => B.iter prog w A E s Q trivial, fun _ _ _ _ => trivial, rfl⟩
    · have D := Draws.text (prog := X.prog) (w := X.w) hh it x tk
      have el : x.cps.size = xs.length := by rw [hx]; simp
      rw [el] at D
      have D' : Draws X.prog X.w A it [it] xs.length (fun i v => ∃ y, xs[i]? = some y ∧ RelV y v) (fun i h => h.IsStrIter it (strIterType x) x tk i) := Draws.imp D fun i v ⟨c, u, e, ev⟩ => by
        refine ⟨.str ⟨#[c]⟩, ?_, ?_⟩
        · rw [hx]; simp [e]
        · rw [ev]; exact ⟨u, rfl⟩
      exact ⟨fun i h st => D'.live i h st.1, fun i h h' st g => ⟨D'.frame i h h' st.1 g, trivial⟩, fun i s Q E hi st hQ => D'.item i s Q E hi st.1 fun y h' tk p q r => hQ y h' tk p ⟨q, trivial⟩ r, fun s Q E st hE => D'.done s Q E st.1 hE⟩
theorem Sv.ob_it {k : Sv} {tk : Tok} {it : Addr} {h : Heap} (e : h.get? it = some (k.ob tk)) : k.it tk it 0 h := by
  cases k <;> exact ⟨_, e, rfl, rfl⟩
theorem Sv.rel {u : Value} (r : RelV k.v u) : ∃ tk, u = k.val tk := by
  cases k with
  | l a => cases r; exact ⟨0, rfl⟩
  | t a => cases r; exact ⟨0, rfl⟩
  | s x => obtain ⟨t, rfl⟩ := r; exact ⟨t, rfl⟩
theorem Sv.inj (I : Inv X pins σ H s) (h : k.At X.K H xs) (h' : k.At X.K H ys) : xs = ys := by
  cases k with
  | l a => exact I.list_inj h h'
  | t a => exact I.tuple_inj h h'
  | s x => exact (show xs = _ from h).trans (show ys = _ from h').symm
end
/-! ### a list or a tuple, or a text -/
def ItS (K : PySem.W.Frag) (k : Sv) : It := match k with
  | .l a => Itl K a
  | .t a => Itt K a
  | .s x => Its x
def iSeq (K : PySem.W.Frag) (tl : TE) : TI := fun σ H R => tl σ H fun x H1 => ∃ k : Sv, x = k.v ∧ (∃ xs, k.At K H1 xs) ∧ R (ItS K k) H1
theorem pi_seq {X : Cx} {tg l : Expr} {tl : TE} (hl : PE X l tl) : PI X tg l (iSeq X.K tl) := by
  refine ⟨fun pins s σ H R I h => ?_⟩
  refine thn (hl.run pins s σ H _ I h) fun v s1 ⟨x, H1, I1, r1, q1⟩ => ?_
  obtain ⟨k, e, ⟨xs, hq⟩, q⟩ := q1
  subst e
  have ev : ∀ (te : TE), (∀ Q : VK, te σ H1 Q = Q k.v H1) → True := fun _ _ => trivial
  cases k with
  | l a =>
    cases r1
    have hq : SqL X.K H1 a xs := hq
    obtain ⟨its, rv, p, hz⟩ := I1.list hq
    refine wpAny_pyIter_list p.isList ?_
    refine ⟨s1.heap.objs.size, [s1.heap.objs.size], _, _, H1, rfl, I1.kept (t' := s1.toks) fun b o e => Heap.get?_push_of_some _ e, turn_list a _, ⟨_, Heap.get?_push_size _ rfl, rfl, rfl⟩, fun b hb => ?_, q⟩
    have e : b = s1.heap.objs.size := by simpa using hb
    subst e
    exact I1.fpOk (Nat.le_refl _) (I1.hok.fresh (Nat.le_refl _))
  | t a =>
    cases r1
    have hq : SqT X.K H1 a xs := hq
    obtain ⟨its, rv, p, hz⟩ := I1.tuple hq
    refine wpAny_pyIter_tuple (show s1.heap.IsTuple a its.toArray from p) ?_
    refine ⟨s1.heap.objs.size, [s1.heap.objs.size], _, _, H1, rfl, I1.kept (t' := s1.toks) fun b o e => Heap.get?_push_of_some _ e, turn_tuple a _, ⟨_, Heap.get?_push_size _ rfl, rfl, rfl⟩, fun b hb => ?_, q⟩
    have e : b = s1.heap.objs.size := by simpa using hb
    subst e
    exact I1.fpOk (Nat.le_refl _) (I1.hok.fresh (Nat.le_refl _))
  | s x =>
    obtain ⟨t, rfl⟩ := r1
    cases ha : x.cps.all (· < 128)
    · exact wpAny_pyIter_wide ha (pi_one (tk := s1.toks) I1 _ (turn_str _ x t "str_iterator" (.inr rfl)) ⟨_, Heap.get?_push_size _ rfl, rfl, rfl⟩ q)
    · exact wpAny_pyIter_ascii ha (pi_one (tk := s1.toks) I1 _ (turn_str _ x t "str_ascii_iterator" (.inl rfl)) ⟨_, Heap.get?_push_size _ rfl, rfl, rfl⟩ q)
/-! ### enumerate -/
def ItE (K : PySem.W.Frag) (k : Sv) : It :=
  ⟨fun i H => ∃ (xs : List V) (x : V), k.At K H xs ∧ xs[i]? = some x, fun i H v H' => ∃ T x, v = .ref T ∧ H T = none ∧ H' = upd H T (.tup [.int (i : Nat), x]) ∧ ∀ xs, k.At K H xs → xs[i]? = some x, fun i H => ∃ xs : List V, k.At K H xs ∧ xs.length = i⟩
theorem turn_enumS {P : Program} {w : World} {K : PySem.W.Frag} {elts : List Expr} {kk : Nat} {tpos : Pos} (k : Sv) (tk : Tok) (e it : Addr) (he0 : e ∉ k.fp) (hi0 : ∀ a ∈ k.fp, a ≠ it) :
    Turn P w K (.Tuple elts kk tpos) (ItE K k) [e, it] e (fun i h => (∃ old, IsEnum h e it ((i : Nat) : Int) old) ∧ k.it tk it i h ∧ e ≠ it) where
  mem := by simp
  obj := fun i h st b hb => by
    obtain ⟨⟨old, he⟩, hi, _⟩ := st
    have e' : b = e ∨ b = it := by simpa using hb
    rcases e' with z | z
    · rw [z]; exact ⟨_, he, fun v q => nomatch q⟩
    · rw [z]; exact Sv.obj hi
  keep := fun i h h' st g => let ⟨⟨old, he⟩, hi, hne⟩ := st; ⟨⟨old, g e (by simp) _ he⟩, Sv.keep hi fun o q => g it (by simp) o q, hne⟩
  item := by
    intro X hP hw hK hc i pins s σ H E I hf st hg
    subst hP hw hK
    obtain ⟨⟨old, he⟩, hit, hne⟩ := st
    obtain ⟨xs, x, hq, hx⟩ := hg
    obtain ⟨its, hst, hlt, _, _, B, D⟩ := Sv.draws I hq tk
    have hel : e < s.heap.objs.size := Heap.lt_size he
    have hil : it < s.heap.objs.size := Sv.lt hit
    have hi : i < xs.length := (List.getElem?_eq_some_iff.mp hx).1
    have hef : e ∉ it :: k.fp := fun z => by
      rcases List.mem_cons.mp z with z | z
      · exact hne z
      · exact he0 z
    refine wpAny_pyNext_enum_itemD (D X.A.in1 it (I.ok.hd hc) hi0) he ⟨hit, hst⟩ hi hne hef fun u h' tk' pu ho hit' hT hsz hk => ?_
    obtain ⟨y, hy, ru⟩ := pu
    rw [hx] at hy; cases hy
    refine ⟨_, rfl, wpAny_letOwnedTupleGo_enum (s := { s with heap := h', toks := tk' + 1 }) ho fun h'' he' sb => ?_⟩
    have hT2 : h''.get? s.heap.objs.size = some { cls := .type "tuple", data := .seq #[.int i tk', u] } := (sb.2 _ (Nat.ne_of_gt hel)).trans hT
    have new : ObjOk X.prog X.w (upd H s.heap.objs.size (.tup [.int (i : Nat), x])) h'' s.heap.objs.size (.tup [.int (i : Nat), x]) :=
      ⟨by show 2 ≤ sizeLine; decide, [.int i tk', u], .cons ⟨_, rfl⟩ (.cons ru .nil), ⟨_, hT2, rfl, _, rfl⟩⟩
    have I1 : Inv X pins σ (upd H s.heap.objs.size (.tup [.int (i : Nat), x])) { s with heap := h'', toks := tk' + 1 } :=
      I.turnedNew (ch := [e, it]) (fun b ob hb q => (sb.2 b (fun z => hb (by simp [z]))).trans (hk b ob (fun z => hb (by simp [z])) (fun z => hb (by simp [z])) q)) hf (Nat.le_refl _) new
    refine ⟨.ref s.heap.objs.size, _, I1, rfl, ⟨_, x, rfl, I.hok.fresh (Nat.le_refl _), rfl, fun ys hy => by rw [Sv.inj I hy hq]; exact hx⟩, ⟨⟨u, ?_⟩, Sv.keep hit'.1 fun o q => (sb.2 it (Ne.symm hne)).trans q, hne⟩, fun b hb => ?_⟩
    · have e1 : ((i + 1 : Nat) : Int) = (i : Int) + 1 := by omega
      rw [e1]; exact he'
    · have hb' : b < s.heap.objs.size := by
        have e' : b = e ∨ b = it := by simpa using hb
        rcases e' with z | z
        · rw [z]; exact hel
        · rw [z]; exact hil
      rw [upd_ne (Nat.ne_of_lt hb')]
      exact (hf b hb).1
  done := by
    intro X hP hw hK hc i pins s σ H E I hf st hg
    subst hP hw hK
    obtain ⟨⟨old, he⟩, hit, hne⟩ := st
    obtain ⟨xs, hq, hx⟩ := hg
    obtain ⟨its, hst, hlt, _, _, B, D⟩ := Sv.draws I hq tk
    obtain ⟨f0, f1, f2, f3, f4, f5⟩ := hf it (by simp)
    subst hx
    exact wpAny_pyNext_enum_endD (D X.A.in1 it (I.ok.hd hc) hi0) he ⟨hit, hst⟩ fun h' eb => ⟨rfl, I.turned (t' := s.toks) (fun b o hb q => eb b o hb q) f0 f1 f3 f4 f5⟩
  self := fun A i s Q E st h => let ⟨⟨_, he⟩, _⟩ := st; wpAny_pyIter_enum he h
def iEnumS (K : PySem.W.Frag) (ta : TA) : TI := fun σ H R => ta σ H fun vs H1 => ∃ (k : Sv), vs = [k.v] ∧ (∃ xs, k.At K H1 xs) ∧ R (ItE K k) H1

theorem meets_enumerate_newB1 {v : Value} {o : Obj} {H : Heap → Prop} (B : Begins v o H) :
    Meets (Builtin.«enumerate.__new__» ⟨[.type "enumerate", v], []⟩) (fun _ R s => H s.heap ∧
      R (.ok (.ret (.ref (s.heap.push o).objs.size))) { s with heap := (s.heap.push o).push { cls := .type "enumerate", data := .fields #[.none, .bool false, .ref s.heap.objs.size, rawInt 0, .none, .none] } }) :=
  .of_wp fun prog w A R s h => by
    obtain ⟨hp, g, d, tk, os⟩ := s; obtain ⟨h1, h⟩ := h
    have hsub := sub_enumerate
    have q1 : ∀ {A' : Around} {E : Value → Shared → Prop} {Q : Value → Shared → Prop}, Q (.ref hp.objs.size) ⟨hp.push o, g, d, tk, os⟩ → wpAny (model prog w) A' (pyIter v) Q E ⟨hp, g, d, tk, os⟩ :=
      fun q => B.iter prog w _ _ ⟨hp, g, d, tk, os⟩ _ h1 q
    wp_walk using q1
    refine wpAny_stack_any fun st => wpAny_pure ?_
    split
    · rename_i c _ _ _ _ _
      cases (c == Value.type "enumerate")
      · wp_walk using q1
        exact ⟨_, rfl, h⟩
      · wp_walk using q1
        exact ⟨_, rfl, h⟩
    · wp_walk using q1
      exact ⟨_, rfl, h⟩
theorem iter_zipA {prog : Program} {w : World} {A : Around} {E : Value → Shared → Prop} {s : Shared} {z TI TO : Addr} {f0 : Value} {b : Bool} {Q : Value → Shared → Prop} (hz : ZipA s.heap z TI TO f0 b) (h : Q (.ref z) s) : wpAny (model prog w) A (pyIter (.ref z)) Q E s := by
  have hT : s.TypeIs (.ref z) "zip" := ⟨_, hz, rfl⟩
  refine wpAny_pyIter_slot hT F.slot_zip_iter (wpAny_call_entry F.slot_zip_iter hT F.entry_zip_iter ?_ (F.args_zip_iter_1 _))
  show wpAny _ _ (ret (.ref z)) _ _ s
  exact wpAny_pure ⟨_, rfl, "zip", _, hT, F.slot_zip_next.lookup, h⟩
theorem meets_enumerate_newZ {z TI TO : Addr} {f0 : Value} {b : Bool} :
    Meets (Builtin.«enumerate.__new__» ⟨[.type "enumerate", .ref z], []⟩) (fun _ R s => ZipA s.heap z TI TO f0 b ∧
      R (.ok (.ret (.ref s.heap.objs.size))) { s with heap := s.heap.push { cls := .type "enumerate", data := .fields #[.none, .bool false, .ref z, rawInt 0, .none, .none] } }) :=
  .of_wp fun prog w A R s h => by
    obtain ⟨hp, g, d, tk, os⟩ := s; obtain ⟨h1, h⟩ := h
    have hsub := sub_enumerate
    have q1 : ∀ {A' : Around} {E : Value → Shared → Prop} {Q : Value → Shared → Prop}, Q (.ref z) ⟨hp, g, d, tk, os⟩ → wpAny (model prog w) A' (pyIter (.ref z)) Q E ⟨hp, g, d, tk, os⟩ :=
      fun q => iter_zipA (s := ⟨hp, g, d, tk, os⟩) h1 q
    wp_walk using q1
    refine wpAny_stack_any fun st => wpAny_pure ?_
    split
    · rename_i c _ _ _ _ _
      cases (c == Value.type "enumerate")
      · wp_walk using q1
        exact ⟨_, rfl, h⟩
      · wp_walk using q1
        exact ⟨_, rfl, h⟩
    · wp_walk using q1
      exact ⟨_, rfl, h⟩
section
variable {prog : Program} {w : World} {A : Around} {E : Value → Shared → Prop} {s : Shared}
theorem enum_begins1 {v : Value} {o : Obj} {H : Heap → Prop} {Q : Value → Shared → Prop} (B : Begins v o H) (h1 : H s.heap)
    (h : ∀ h', IsEnum h' (s.heap.objs.size + 1) s.heap.objs.size 0 .none → h'.get? s.heap.objs.size = some o → h'.objs.size = s.heap.objs.size + 2 →
      (∀ b o, s.heap.get? b = some o → h'.get? b = some o) → Q (.ref (s.heap.objs.size + 1)) { s with heap := h' }) :
    wpAny (model prog w) A (call (.type "enumerate") [v]) Q E s := by
  refine callType_new F.called_enumerate (by decide) (F.typeCall_enumerate_1 _) (F.newCall_enumerate_1 _) (fun obj => F.args_object_init_2 obj _) F.entry_enumerate_new
    (meets_enumerate_newB1 B) ⟨h1, ?_⟩
  have hz : (s.heap.push o).objs.size = s.heap.objs.size + 1 := Heap.size_push ..
  show _ ∧ _
  rw [hz]
  have he : IsEnum ((s.heap.push o).push { cls := .type "enumerate", data := .fields #[.none, .bool false, .ref s.heap.objs.size, rawInt 0, .none, .none] }) (s.heap.objs.size + 1) s.heap.objs.size 0 .none := by
    have := Heap.get?_push_size (s.heap.push o) (o := { cls := .type "enumerate", data := .fields #[.none, .bool false, .ref s.heap.objs.size, rawInt 0, .none, .none] }) rfl
    rw [hz] at this; exact this
  refine ⟨⟨_, he, rfl⟩, h _ he (Heap.get?_push_of_some _ (Heap.get?_push_size _ B.free)) (by rw [Heap.size_push, hz]) fun b o x => Heap.get?_push_of_some _ (Heap.get?_push_of_some _ x)⟩
theorem enum_beginsZ {z TI TO : Addr} {f0 : Value} {b : Bool} {Q : Value → Shared → Prop} (hz : ZipA s.heap z TI TO f0 b)
    (h : ∀ h', IsEnum h' s.heap.objs.size z 0 .none → h'.objs.size = s.heap.objs.size + 1 →
      (∀ b o, s.heap.get? b = some o → h'.get? b = some o) → Q (.ref s.heap.objs.size) { s with heap := h' }) :
    wpAny (model prog w) A (call (.type "enumerate") [.ref z]) Q E s := by
  refine callType_new F.called_enumerate (by decide) (F.typeCall_enumerate_1 _) (F.newCall_enumerate_1 _) (fun obj => F.args_object_init_2 obj _) F.entry_enumerate_new
    meets_enumerate_newZ ⟨hz, ?_⟩
  show _ ∧ _
  have he : IsEnum (s.heap.push { cls := .type "enumerate", data := .fields #[.none, .bool false, .ref z, rawInt 0, .none, .none] }) s.heap.objs.size z 0 .none := Heap.get?_push_size _ rfl
  exact ⟨⟨_, he, rfl⟩, h _ he (Heap.size_push ..) fun b o x => Heap.get?_push_of_some _ x⟩
end
theorem pi_enumS {X : Cx} {e : Expr} {ta : TA} {p pos tpos : Pos} {elts : List Expr} {kk : Nat} (hg : Gl X "enumerate") (hm : X.mg "enumerate" = none) (ha : PA X [e] ta) (hs : starEach [e] X.env = [(false, eval e X.env)] := by rfl) :
    PI X (.Tuple elts kk tpos) (.Call (.Name "enumerate" p) [e] [] pos) (iEnumS X.K ta) := by
  refine ⟨fun pins s σ H R I h => ?_⟩
  refine Call_ (ld_blt I hg hm boot_enumerate (PyProof.Rows.callWith_type1 (thn (ha.run pos pins s σ H _ I h) fun us s1 ⟨vs, H1, I1, r1, q1⟩ => ?_) hs rfl))
  obtain ⟨k, ex, ⟨xs, hq⟩, q⟩ := q1
  subst ex
  cases r1 with
  | cons r rr =>
    cases rr
    obtain ⟨tk, rfl⟩ := Sv.rel r
    obtain ⟨its, hst, hlt, _, _, B, D⟩ := Sv.draws I1 hq tk
    refine enum_begins1 B hst fun h' he hit hsz hk => wpAny_pyIter_enum he ?_
    have I2 : Inv X pins σ H1 { s1 with heap := h' } := I1.kept (t' := s1.toks) hk
    refine ⟨s1.heap.objs.size + 1, [s1.heap.objs.size + 1, s1.heap.objs.size], _, _, H1, rfl, I2, turn_enumS k tk (s1.heap.objs.size + 1) s1.heap.objs.size (fun z => ?_) (fun a ha => Nat.ne_of_lt (hlt a ha)), ⟨⟨.none, he⟩, Sv.ob_it hit, Nat.succ_ne_self _⟩, fun b hb => ?_, q⟩
    · exact absurd (hlt _ z) (Nat.not_lt.mpr (Nat.le_add_right _ _))
    · have e' : b = s1.heap.objs.size + 1 ∨ b = s1.heap.objs.size := by simpa using hb
      have hle : s1.heap.objs.size ≤ b := by
        rcases e' with z | z
        · rw [z]; exact Nat.le_add_right _ _
        · rw [z]; exact Nat.le_refl _
      exact I1.fpOk hle (I1.hok.fresh hle)
/-! ### zip of two sources -/
def ItZ (K : PySem.W.Frag) (k1 k2 : Sv) : It :=
  ⟨fun i H => ∃ (xs ys : List V) (x y : V), k1.At K H xs ∧ k2.At K H ys ∧ xs[i]? = some x ∧ ys[i]? = some y,
    fun i H v H' => ∃ T x y, v = .ref T ∧ H T = none ∧ H' = upd H T (.tup [x, y]) ∧ (∀ xs, k1.At K H xs → xs[i]? = some x) ∧ ∀ ys, k2.At K H ys → ys[i]? = some y,
    fun i H => ∃ xs ys : List V, k1.At K H xs ∧ k2.At K H ys ∧ i ≤ xs.length ∧ i ≤ ys.length ∧ (i = xs.length ∨ i = ys.length)⟩
/-- enumerate of it: the inner pair is laid too -/
def ItEZ (K : PySem.W.Frag) (k1 k2 : Sv) : It :=
  ⟨fun i H => ∃ (xs ys : List V) (x y : V), k1.At K H xs ∧ k2.At K H ys ∧ xs[i]? = some x ∧ ys[i]? = some y,
    fun i H v H' => ∃ T U x y, v = .ref T ∧ H U = none ∧ upd H U (.tup [x, y]) T = none ∧ H' = upd (upd H U (.tup [x, y])) T (.tup [.int (i : Nat), .ref U]) ∧ (∀ xs, k1.At K H xs → xs[i]? = some x) ∧ ∀ ys, k2.At K H ys → ys[i]? = some y,
    fun i H => ∃ xs ys : List V, k1.At K H xs ∧ k2.At K H ys ∧ i ≤ xs.length ∧ i ≤ ys.length ∧ (i = xs.length ∨ i = ys.length)⟩
/-- the zip at z in turn i -/
def ZipSt (k1 k2 : Sv) (t1 t2 : Tok) (z TI TO i1 i2 : Addr) (i : Nat) (h : Heap) : Prop :=
  (∃ f0 b, ZipA h z TI TO f0 b ∧ Zf f0) ∧ IsTupOf2 h TI (.ref i1) (.ref i2) ∧ (∃ x y, IsTupOf2 h TO x y) ∧ k1.it t1 i1 i h ∧ k2.it t2 i2 i h
theorem ZipSt.keep {k1 k2 : Sv} {t1 t2 : Tok} {z TI TO i1 i2 : Addr} {i : Nat} {h h' : Heap} (e : ZipSt k1 k2 t1 t2 z TI TO i1 i2 i h) (g : ∀ b ∈ [z, TI, TO, i1, i2], ∀ o, h.get? b = some o → h'.get? b = some o) : ZipSt k1 k2 t1 t2 z TI TO i1 i2 i h' := by
  obtain ⟨⟨f0, b, hz, hf⟩, hTI, ⟨x, y, hTO⟩, h1, h2⟩ := e
  exact ⟨⟨f0, b, g z (by simp) _ hz, hf⟩, g TI (by simp) _ hTI, ⟨x, y, g TO (by simp) _ hTO⟩, Sv.keep h1 fun o q => g i1 (by simp) o q, Sv.keep h2 fun o q => g i2 (by simp) o q⟩
theorem ZipSt.obj {k1 k2 : Sv} {t1 t2 : Tok} {z TI TO i1 i2 : Addr} {i : Nat} {h : Heap} (e : ZipSt k1 k2 t1 t2 z TI TO i1 i2 i h) : ∀ c ∈ [z, TI, TO, i1, i2], ∃ o, h.get? c = some o ∧ ∀ v, o.data ≠ .cell v := fun c hc => by
  obtain ⟨⟨f0, b, hz, hf⟩, hTI, ⟨x, y, hTO⟩, h1, h2⟩ := e
  have e' : c = z ∨ c = TI ∨ c = TO ∨ c = i1 ∨ c = i2 := by simpa using hc
  rcases e' with q | q | q | q | q
  · rw [q]; exact ⟨_, hz, fun v q => nomatch q⟩
  · rw [q]; exact ⟨_, hTI, fun v q => nomatch q⟩
  · rw [q]; exact ⟨_, hTO, fun v q => nomatch q⟩
  · rw [q]; exact Sv.obj h1
  · rw [q]; exact Sv.obj h2
theorem turn_zipS {P : Program} {w : World} {K : PySem.W.Frag} {elts : List Expr} {kk : Nat} {tpos : Pos} {k1 k2 : Sv} {t1 t2 : Tok} {z TI TO i1 i2 : Addr} (S : ZipSep2 z TI TO i1 i2 (i1 :: k1.fp) (i2 :: k2.fp)) (n1 : ∀ a ∈ k1.fp, a ≠ i1) (n2 : ∀ a ∈ k2.fp, a ≠ i2) :
    Turn P w K (.Tuple elts kk tpos) (ItZ K k1 k2) [z, TI, TO, i1, i2] z (ZipSt k1 k2 t1 t2 z TI TO i1 i2) where
  mem := by simp
  obj := fun i h st => st.obj
  keep := fun i h h' st k => st.keep k
  item := by
    intro X hP hw hK hc i pins s σ H E I hf st hg
    subst hP hw hK
    have ob := st.obj
    obtain ⟨⟨f0, b, hz, hzf⟩, hTI, ⟨x0, y0, hTO⟩, h1, h2⟩ := st
    obtain ⟨xs, ys, x, y, hqx, hqy, hx, hy⟩ := hg
    obtain ⟨its, hst, _, _, _, _, D1⟩ := Sv.draws I hqx t1
    obtain ⟨its2, hst2, _, _, _, _, D2⟩ := Sv.draws I hqy t2
    have hzl : z < s.heap.objs.size := Heap.lt_size hz
    have hT0 : s.TypeIs (.ref z) "zip" := ⟨_, hz, rfl⟩
    unfold pyNext
    refine wpAny_bind (wpAny_attempt (wpAny_callSpecial?_slot (name := Str.ofString "__next__") hT0 F.slot_zip_next (wpAny_call_entry F.slot_zip_next hT0 F.entry_zip_next
      (zip_next_item S (D1 X.A.in1 i1 (I.ok.hd hc) n1) (D2 X.A.in1 i2 (I.ok.hd hc) n2) hz hzf hTI hTO ⟨h1, hst⟩ ⟨h2, hst2⟩ (List.getElem?_eq_some_iff.mp hx).1 (List.getElem?_eq_some_iff.mp hy).1
        fun u u2 h' tk f0' b' p1 p2 z' zf' TO' h1' h2' hT hsz hk => wpAny_pure ?_) (F.args_zip_next_1 _))))
    obtain ⟨y1, e1, ru⟩ := p1
    rw [hx] at e1; cases e1
    obtain ⟨y2, e2, ru2⟩ := p2
    rw [hy] at e2; cases e2
    refine ⟨_, rfl, letGo_zip (s := { s with heap := h', toks := tk }) z' fun h'' f2 z'' zz sb => ?_⟩
    have hT2 : h''.get? s.heap.objs.size = some { cls := .type "tuple", data := .seq #[u, u2] } := (sb.2 _ (Nat.ne_of_gt hzl)).trans hT
    have new : ObjOk X.prog X.w (upd H s.heap.objs.size (.tup [x, y])) h'' s.heap.objs.size (.tup [x, y]) :=
      ⟨by show 2 ≤ sizeLine; decide, [u, u2], .cons ru (.cons ru2 .nil), ⟨_, hT2, rfl, _, rfl⟩⟩
    have I1 : Inv X pins σ (upd H s.heap.objs.size (.tup [x, y])) { s with heap := h'', toks := tk } :=
      I.turnedNew (t' := tk) (ch := [z, TI, TO, i1, i2]) (fun c o hb q => (sb.2 c (fun q' => hb (by simp [q']))).trans (hk c o (fun q' => hb (by simp [q'])) (fun q' => hb (by simp [q'])) (fun q' => hb (by simp [q'])) (fun q' => hb (by simp [q'])) q)) hf (Nat.le_refl _) new
    have zf2 : Zf f2 := by
      rcases zz with e | e
      · rw [e]; exact zf'
      · exact .inl e
    obtain ⟨ta, tb, TO'⟩ := TO'
    refine ⟨.ref s.heap.objs.size, _, I1, rfl, ⟨_, x, y, rfl, I.hok.fresh (Nat.le_refl _), rfl, fun l hl => by rw [Sv.inj I hl hqx]; exact hx, fun l hl => by rw [Sv.inj I hl hqy]; exact hy⟩, ⟨⟨f2, b', z'', zf2⟩, ?_, ⟨ta, tb, ?_⟩, ?_, ?_⟩, fun c hcm => ?_⟩
    · exact (sb.2 _ S.TIz).trans (hk _ _ S.TIz S.TITO S.TIi1 S.TIi2 hTI)
    · exact (sb.2 _ S.TOz).trans TO'
    · exact Sv.keep h1'.1 fun o q => (sb.2 _ S.zi1.symm).trans q
    · exact Sv.keep h2'.1 fun o q => (sb.2 _ S.zi2.symm).trans q
    · obtain ⟨o, ho, _⟩ := ob c hcm
      rw [upd_ne (Nat.ne_of_lt (Heap.lt_size ho))]
      exact (hf c hcm).1
  done := by
    intro X hP hw hK hc i pins s σ H E I hf st hg
    subst hP hw hK
    obtain ⟨⟨f0, b, hz, hzf⟩, hTI, ⟨x0, y0, hTO⟩, h1, h2⟩ := st
    obtain ⟨xs, ys, hqx, hqy, l1, l2, hend⟩ := hg
    obtain ⟨its, hst, _, _, _, _, D1⟩ := Sv.draws I hqx t1
    obtain ⟨its2, hst2, _, _, _, _, D2⟩ := Sv.draws I hqy t2
    have hT0 : s.TypeIs (.ref z) "zip" := ⟨_, hz, rfl⟩
    unfold pyNext
    refine wpAny_bind (wpAny_attempt (wpAny_callSpecial?_slot (name := Str.ofString "__next__") hT0 F.slot_zip_next (wpAny_call_entry F.slot_zip_next hT0 F.entry_zip_next
      (zip_next_end S (D1 X.A.in1 i1 (I.ok.hd hc) n1) (D2 X.A.in1 i2 (I.ok.hd hc) n2) hz hzf hTI hTO ⟨h1, hst⟩ ⟨h2, hst2⟩ l1 l2 hend fun h' tk e hk he => ?_) (F.args_zip_next_1 _))))
    obtain ⟨o, ho, hcl⟩ := he
    refine wpAny_bind (wpAny_isInstance (T := "StopIteration") (b := true) ⟨o, ho, hcl⟩ isSubtype_stop (wpAny_pure ⟨rfl, ?_⟩))
    exact I.turnedL (t' := tk) (ch := [z, TI, TO, i1, i2]) (fun c o hb q => hk c o (fun q' => hb (by simp [q'])) (fun q' => hb (by simp [q'])) (fun q' => hb (by simp [q'])) (fun q' => hb (by simp [q'])) q) hf
  self := fun A i s Q E st h => by
    obtain ⟨⟨f0, b, hz, hzf⟩, _⟩ := st
    exact iter_zipA hz h
def iZipS (K : PySem.W.Frag) (ta : TA) : TI := fun σ H R => ta σ H fun vs H1 => ∃ k1 k2 : Sv, vs = [k1.v, k2.v] ∧ (∃ xs, k1.At K H1 xs) ∧ (∃ xs, k2.At K H1 xs) ∧ R (ItZ K k1 k2) H1
def iEnumZipS (K : PySem.W.Frag) (ta : TA) : TI := fun σ H R => ta σ H fun vs H1 => ∃ k1 k2 : Sv, vs = [k1.v, k2.v] ∧ (∃ xs, k1.At K H1 xs) ∧ (∃ xs, k2.At K H1 xs) ∧ R (ItEZ K k1 k2) H1
/-- the five cells of a zip, new -/
theorem five {N c : Addr} (h : c ∈ [N + 4, N + 2, N + 3, N, N + 1]) : N ≤ c := by
  have e' : c = N + 4 ∨ c = N + 2 ∨ c = N + 3 ∨ c = N ∨ c = N + 1 := by simpa using h
  rcases e' with z | z | z | z | z
  · rw [z]; exact Nat.le_add_right _ _
  · rw [z]; exact Nat.le_add_right _ _
  · rw [z]; exact Nat.le_add_right _ _
  · rw [z]; exact Nat.le_refl _
  · rw [z]; exact Nat.le_add_right _ _
theorem notin_sz {N c : Addr} {fp : List Addr} (h : ∀ a ∈ fp, a < N) (hc : N ≤ c) : ∀ a ∈ fp, a ≠ c := fun a ha z => absurd (h a ha) (by rw [z]; exact Nat.not_lt.mpr hc)
theorem pi_zipS {X : Cx} {e e2 : Expr} {ta : TA} {p pos tpos : Pos} {elts : List Expr} {kk : Nat} (hg : Gl X "zip") (hm : X.mg "zip" = none) (ha : PA X [e, e2] ta)
    (hs : starEach [e, e2] X.env = (false, eval e X.env) :: starEach [e2] X.env := by rfl) (hpl : (backTo pos (starEach [e2] X.env)).any (·.1) = false := by rfl) :
    PI X (.Tuple elts kk tpos) (.Call (.Name "zip" p) [e, e2] [] pos) (iZipS X.K ta) := by
  refine ⟨fun pins s σ H R I h => ?_⟩
  refine Call_ (ld_blt I hg hm PyProof.Rows.boot_zip (PyProof.Rows.callWith_type1 (thn (ha.run pos pins s σ H _ I h) fun us s1 ⟨vs, H1, I1, r1, q1⟩ => ?_) hs hpl))
  obtain ⟨k1, k2, ex, ⟨xs, hqx⟩, ⟨ys, hqy⟩, q⟩ := q1
  subst ex
  cases r1 with
  | cons r rr =>
    cases rr with
    | cons r' rr =>
      cases rr
      obtain ⟨t1, rfl⟩ := Sv.rel r
      obtain ⟨t2, rfl⟩ := Sv.rel r'
      obtain ⟨its, hst, hlt, _, _, B, D⟩ := Sv.draws I1 hqx t1
      obtain ⟨its2, hst2, hlt2, _, _, B2, D2⟩ := Sv.draws I1 hqy t2
      refine zip_begins2 B B2 hst hst2 fun h' hz hTI hTO g1 g2 hsz hk => wpAny_pyIter_zip hz ?_
      have I2 : Inv X pins σ H1 { s1 with heap := h' } := I1.kept (t' := s1.toks) hk
      exact ⟨s1.heap.objs.size + 4, [s1.heap.objs.size + 4, s1.heap.objs.size + 2, s1.heap.objs.size + 3, s1.heap.objs.size, s1.heap.objs.size + 1], _, _, H1, rfl, I2,
        turn_zipS (zip_sep2 hlt hlt2) (notin_sz hlt (Nat.le_refl _)) (notin_sz hlt2 (Nat.le_add_right _ _)), ⟨⟨.none, false, hz, .inl rfl⟩, hTI, ⟨_, _, hTO⟩, Sv.ob_it g1, Sv.ob_it g2⟩,
        fun c hc => I1.fpOk (five hc) (I1.hok.fresh (five hc)), q⟩
theorem turn_ezipS {P : Program} {w : World} {K : PySem.W.Frag} {elts : List Expr} {kk : Nat} {tpos : Pos} {k1 k2 : Sv} {t1 t2 : Tok} {e z TI TO i1 i2 : Addr} (S : ZipSep2 z TI TO i1 i2 (i1 :: k1.fp) (i2 :: k2.fp)) (n1 : ∀ a ∈ k1.fp, a ≠ i1) (n2 : ∀ a ∈ k2.fp, a ≠ i2)
    (he0 : e ∉ [z, TI, TO, i1, i2]) : Turn P w K (.Tuple elts kk tpos) (ItEZ K k1 k2) [e, z, TI, TO, i1, i2] e (fun i h => (∃ old, IsEnum h e z ((i : Nat) : Int) old) ∧ ZipSt k1 k2 t1 t2 z TI TO i1 i2 i h) where
  mem := by simp
  obj := fun i h st b hb => by
    obtain ⟨⟨old, he⟩, hz⟩ := st
    rcases List.mem_cons.mp hb with q | q
    · rw [q]; exact ⟨_, he, fun v q => nomatch q⟩
    · exact hz.obj b q
  keep := fun i h h' st g => let ⟨⟨old, he⟩, hz⟩ := st; ⟨⟨old, g e (by simp) _ he⟩, hz.keep fun b hb => g b (List.mem_cons_of_mem _ hb)⟩
  item := by
    intro X hP hw hK hc i pins s σ H E I hf st hg
    subst hP hw hK
    obtain ⟨⟨old, he⟩, zst⟩ := st
    have ob := zst.obj
    obtain ⟨⟨f0, b, hz, hzf⟩, hTI, ⟨x0, y0, hTO⟩, h1, h2⟩ := zst
    obtain ⟨xs, ys, x, y, hqx, hqy, hx, hy⟩ := hg
    obtain ⟨its, hst, _, _, _, _, D1⟩ := Sv.draws I hqx t1
    obtain ⟨its2, hst2, _, _, _, _, D2⟩ := Sv.draws I hqy t2
    have hel : e < s.heap.objs.size := Heap.lt_size he
    refine pyNext_enum_item (ch := [z, TI, TO, i1, i2]) (P := fun u tk h₁ => u = .ref s.heap.objs.size ∧ ∃ u1 u2, RelV x u1 ∧ RelV y u2 ∧ IsTupOf2 h₁ s.heap.objs.size u1 u2 ∧ ZipSt k1 k2 t1 t2 z TI TO i1 i2 (i + 1) h₁ ∧ h₁.objs.size = s.heap.objs.size + 1) he he0
      (fun Q' E' hQ' => nextOf_zip_item S (D1 _ i1 (I.ok.hd hc) n1) (D2 _ i2 (I.ok.hd hc) n2) hz hzf hTI hTO ⟨h1, hst⟩ ⟨h2, hst2⟩ (List.getElem?_eq_some_iff.mp hx).1 (List.getElem?_eq_some_iff.mp hy).1
        fun u u2 h' tk f0' b' p1 p2 z' zf' TO' h1' h2' hT hsz hk => hQ' _ h' tk ⟨rfl, u, u2, ?_, ?_, hT, ⟨⟨f0', b', z', zf'⟩, hk _ _ S.TIz S.TITO S.TIi1 S.TIi2 hTI, TO', h1'.1, h2'.1⟩, hsz⟩ (by rw [hsz]; exact Nat.le_succ _)
          fun c o hc q => hk c o (fun q' => hc (by simp [q'])) (fun q' => hc (by simp [q'])) (fun q' => hc (by simp [q'])) (fun q' => hc (by simp [q'])) q) ?_
    · obtain ⟨y1, e1, ru⟩ := p1
      rw [hx] at e1; cases e1
      exact ru
    · obtain ⟨y1, e1, ru⟩ := p2
      rw [hy] at e1; cases e1
      exact ru
    · rintro u h₁ h' tk ⟨rfl, u1, u2, r1, r2, hT, zst, hsz⟩ hle hk ho hTT hk2
      refine ⟨_, rfl, wpAny_letOwnedTupleGo_enum (s := { s with heap := h', toks := tk + 1 }) ho fun h'' he' sb => ?_⟩
      have nTe : s.heap.objs.size ≠ e := Nat.ne_of_gt hel
      have nTe2 : h₁.objs.size ≠ e := Nat.ne_of_gt (Nat.lt_of_lt_of_le hel hle)
      have all : ∀ c o, c ∉ [e, z, TI, TO, i1, i2] → s.heap.get? c = some o → h''.get? c = some o := fun c o hc q =>
        (sb.2 c (fun q' => hc (by simp [q']))).trans (hk2 c o (fun q' => hc (by simp [q'])) (hk c o (fun q' => hc (List.mem_cons_of_mem _ q')) q))
      have hT2 : h''.get? s.heap.objs.size = some { cls := .type "tuple", data := .seq #[u1, u2] } := (sb.2 _ nTe).trans (hk2 _ _ nTe hT)
      have hT3 : h''.get? h₁.objs.size = some { cls := .type "tuple", data := .seq #[.int i tk, .ref s.heap.objs.size] } := (sb.2 _ nTe2).trans hTT
      have new : ObjOk X.prog X.w (upd H s.heap.objs.size (.tup [x, y])) h'' s.heap.objs.size (.tup [x, y]) :=
        ⟨by show 2 ≤ sizeLine; decide, [u1, u2], .cons r1 (.cons r2 .nil), ⟨_, hT2, rfl, _, rfl⟩⟩
      have new1 : ObjOk X.prog X.w (upd H s.heap.objs.size (.tup [x, y])) h₁ s.heap.objs.size (.tup [x, y]) :=
        ⟨by show 2 ≤ sizeLine; decide, [u1, u2], .cons r1 (.cons r2 .nil), ⟨_, hT, rfl, _, rfl⟩⟩
      have I1 : Inv X pins σ (upd H s.heap.objs.size (.tup [x, y])) { s with heap := h₁, toks := tk } := I.turnedNew (ch := [e, z, TI, TO, i1, i2]) (fun c o hc q => hk c o (fun q' => hc (List.mem_cons_of_mem _ q')) q) hf (Nat.le_refl _) new1
      have hlt1 : s.heap.objs.size < h₁.objs.size := by rw [hsz]; exact Nat.lt_succ_self _
      have fr : upd H s.heap.objs.size (.tup [x, y]) h₁.objs.size = none := by
        rw [upd_ne (Nat.ne_of_gt hlt1)]
        exact I.hok.fresh (Nat.le_of_lt hlt1)
      have new2 : ObjOk X.prog X.w (upd (upd H s.heap.objs.size (.tup [x, y])) h₁.objs.size (.tup [.int (i : Nat), .ref s.heap.objs.size])) h'' h₁.objs.size (.tup [.int (i : Nat), .ref s.heap.objs.size]) :=
        ⟨by show 2 ≤ sizeLine; decide, [.int i tk, .ref s.heap.objs.size], .cons ⟨_, rfl⟩ (.cons rfl .nil), ⟨_, hT3, rfl, _, rfl⟩⟩
      have hf0 : ∀ b ∈ [e, z, TI, TO, i1, i2], b < s.heap.objs.size := fun b hb => by
        rcases List.mem_cons.mp hb with q | q
        · rw [q]; exact hel
        · obtain ⟨o, ho, _⟩ := ob b q
          exact Heap.lt_size ho
      have I2 : Inv X pins σ (upd (upd H s.heap.objs.size (.tup [x, y])) h₁.objs.size (.tup [.int (i : Nat), .ref s.heap.objs.size])) { s with heap := h'', toks := tk + 1 } :=
        I1.turnedNew (t' := tk + 1) (ch := [e]) (fun c o hc q => (sb.2 c (fun q' => hc (by simp [q']))).trans (hk2 c o (fun q' => hc (by simp [q'])) q)) (fun b hb => by
          have eb : b = e := by simpa using hb
          subst eb
          obtain ⟨f0, f1, f2, f3, f4, f5⟩ := hf b (by simp)
          exact ⟨by rw [upd_ne (Nat.ne_of_lt hel)]; exact f0, f1, f2, f3, f4, f5⟩) (Nat.le_refl _) new2
      refine ⟨.ref h₁.objs.size, _, I2, rfl, ⟨_, s.heap.objs.size, x, y, rfl, I.hok.fresh (Nat.le_refl _), fr, rfl, fun l hl => by rw [Sv.inj I hl hqx]; exact hx, fun l hl => by rw [Sv.inj I hl hqy]; exact hy⟩, ⟨⟨.ref s.heap.objs.size, ?_⟩, zst.keep fun c hc o q => ?_⟩, fun c hc => ?_⟩
      · have e1 : ((i + 1 : Nat) : Int) = (i : Int) + 1 := by omega
        rw [e1]; exact he'
      · have nce : c ≠ e := fun q' => he0 (q' ▸ hc)
        exact (sb.2 _ nce).trans (hk2 c o nce q)
      · have l := hf0 c hc
        rw [upd_ne (Nat.ne_of_lt (Nat.lt_trans l hlt1)), upd_ne (Nat.ne_of_lt l)]
        exact (hf c hc).1
  done := by
    intro X hP hw hK hc i pins s σ H E I hf st hg
    subst hP hw hK
    obtain ⟨⟨old, he⟩, zst⟩ := st
    obtain ⟨⟨f0, b, hz, hzf⟩, hTI, ⟨x0, y0, hTO⟩, h1, h2⟩ := zst
    obtain ⟨xs, ys, hqx, hqy, l1, l2, hend⟩ := hg
    obtain ⟨its, hst, _, _, _, _, D1⟩ := Sv.draws I hqx t1
    obtain ⟨its2, hst2, _, _, _, _, D2⟩ := Sv.draws I hqy t2
    refine pyNext_enum_end (ch := [z, TI, TO, i1, i2]) he (fun Q' E' hE' => nextOf_zip_end S (D1 _ i1 (I.ok.hd hc) n1) (D2 _ i2 (I.ok.hd hc) n2) hz hzf hTI hTO ⟨h1, hst⟩ ⟨h2, hst2⟩ l1 l2 hend
      fun h' tk x hk hx => hE' h' tk x (fun c o hc q => hk c o (fun q' => hc (by simp [q'])) (fun q' => hc (by simp [q'])) (fun q' => hc (by simp [q'])) (fun q' => hc (by simp [q'])) q) hx) fun h' tk hk => ⟨rfl, ?_⟩
    exact I.turnedL (t' := tk) (ch := [e, z, TI, TO, i1, i2]) (fun c o hb q => hk c o (fun q' => hb (List.mem_cons_of_mem _ q')) q) hf
  self := fun A i s Q E st h => let ⟨⟨_, he⟩, _⟩ := st; wpAny_pyIter_enum he h
theorem pi_ezipS {X : Cx} {e e2 : Expr} {ta : TA} {p p2 pos pos2 tpos : Pos} {elts : List Expr} {kk : Nat} (hg : Gl X "zip") (hm : X.mg "zip" = none) (hg' : Gl X "enumerate") (hm' : X.mg "enumerate" = none) (ha : PA X [e, e2] ta)
    (hs : starEach [e, e2] X.env = (false, eval e X.env) :: starEach [e2] X.env := by rfl) (hpl : (backTo pos (starEach [e2] X.env)).any (·.1) = false := by rfl)
    (hs' : starEach [.Call (.Name "zip" p) [e, e2] [] pos] X.env = [(false, eval (.Call (.Name "zip" p) [e, e2] [] pos) X.env)] := by rfl) :
    PI X (.Tuple elts kk tpos) (.Call (.Name "enumerate" p2) [.Call (.Name "zip" p) [e, e2] [] pos] [] pos2) (iEnumZipS X.K ta) := by
  refine ⟨fun pins s σ H R I h => ?_⟩
  refine Call_ (ld_blt I hg' hm' boot_enumerate (PyProof.Rows.callWith_type1 ?_ hs' rfl))
  rw [hs']
  show wpAny _ _ (spliced ((false, eval (.Call (.Name "zip" p) [e, e2] [] pos) X.env) :: backTo pos2 [])) _ _ s
  refine Calls.spliced_cons (Call_ (ld_blt I hg hm PyProof.Rows.boot_zip (PyProof.Rows.callWith_type1 (thn (ha.run pos pins s σ H _ I h) fun us s1 ⟨vs, H1, I1, r1, q1⟩ => ?_) hs hpl)))
  obtain ⟨k1, k2, ex, ⟨xs, hqx⟩, ⟨ys, hqy⟩, q⟩ := q1
  subst ex
  cases r1 with
  | cons r rr =>
    cases rr with
    | cons r' rr =>
      cases rr
      obtain ⟨t1, rfl⟩ := Sv.rel r
      obtain ⟨t2, rfl⟩ := Sv.rel r'
      obtain ⟨its, hst, hlt, _, _, B, D⟩ := Sv.draws I1 hqx t1
      obtain ⟨its2, hst2, hlt2, _, _, B2, D2⟩ := Sv.draws I1 hqy t2
      refine zip_begins2 B B2 hst hst2 fun h' hz hTI hTO g1 g2 hsz hk => ?_
      refine Calls.spliced_nil ?_
      have I2 : Inv X pins σ H1 { s1 with heap := h' } := I1.kept (t' := s1.toks) hk
      refine enum_beginsZ (s := { s1 with heap := h' }) hz fun h'' he hsz2 hk2 => wpAny_pyIter_enum he ?_
      have I3 : Inv X pins σ H1 { s1 with heap := h'' } := I2.kept (t' := s1.toks) hk2
      have h5 : h'.objs.size = s1.heap.objs.size + 5 := hsz
      have en : h'.objs.size ∉ [s1.heap.objs.size + 4, s1.heap.objs.size + 2, s1.heap.objs.size + 3, s1.heap.objs.size, s1.heap.objs.size + 1] := fun hm => by
        rw [h5] at hm
        simp at hm
      refine ⟨h'.objs.size, [h'.objs.size, s1.heap.objs.size + 4, s1.heap.objs.size + 2, s1.heap.objs.size + 3, s1.heap.objs.size, s1.heap.objs.size + 1], _, _, H1, rfl, I3,
        turn_ezipS (zip_sep2 hlt hlt2) (notin_sz hlt (Nat.le_refl _)) (notin_sz hlt2 (Nat.le_add_right _ _)) en, ⟨⟨.none, he⟩, ⟨.none, false, hk2 _ _ hz, .inl rfl⟩, hk2 _ _ hTI, ⟨_, _, hk2 _ _ hTO⟩, Sv.ob_it (hk2 _ _ g1), Sv.ob_it (hk2 _ _ g2)⟩,
        fun c hc => ?_, q⟩
      have hle : s1.heap.objs.size ≤ c := by
        rcases List.mem_cons.mp hc with z | z
        · rw [z, h5]; exact Nat.le_add_right _ _
        · exact five z
      exact I1.fpOk hle (I1.hok.fresh hle)
end NvZ
set_option Elab.async false
set_option linter.all false
set_option maxRecDepth 100000
set_option maxHeartbeats 4000000
/-! Walks as data: comprehensions, loops. -/
namespace Nv
open PySem L2 StX NvZ
section
variable {K : PySem.W.Frag} {S S' : Addr → Prop} {σ : L2.St} {H H' H1 : Hp}
def Up (K : PySem.W.Frag) (S : Addr → Prop) (H : Hp) (S' : Addr → Prop) (H' : Hp) : Prop := ∀ v d, Rp K S H v d → Rp K S' H' v d
theorem Up.refl : Up K S H S H := fun _ _ r => r
theorem Up.trans {S'' : Addr → Prop} {H'' : Hp} (a : Up K S H S' H') (b : Up K S' H' S'' H'') : Up K S H S'' H'' := fun v d r => b v d (a v d r)
theorem Up.exS (e : ExS S H H') : Up K S H S H' := fun _ _ r => r.mono e
theorem Up.ex (m : Mem S H) (e : Ex H H') : Up K S H S H' := fun _ _ r => r.mono (.of m e)
theorem Up.arr (u : Up K S H S' H') : ∀ {vs : List V} {ds : List D}, RpA K S H vs ds → RpA K S' H' vs ds
  | _, _, .nil => .nil
  | _, _, .cons r t => .cons (u _ _ r) (Up.arr u t)
/-- one more mutable object, new -/
def plus (S : Addr → Prop) (p : Addr) : Addr → Prop := fun a => S a ∨ a = p
theorem SL.plus {p a : Addr} {xs : List V} (hp : H p = none) (h : SL K S H a xs) : SL K (plus S p) H a xs := ⟨h.1, fun z => z.elim h.2 fun z => by have h1 := h.1; rw [z, hp] at h1; cases h1⟩
theorem ST.plus {p a : Addr} {xs : List V} (hp : H p = none) (h : ST K S H a xs) : ST K (plus S p) H a xs := by
  rcases h with ⟨h, n⟩ | h
  · refine .inl ⟨h, fun z => ?_⟩
    rcases z with z | z
    · exact n z
    · subst z
      rcases h with h | ⟨o, h⟩ <;> (rw [hp] at h; cases h)
  · exact .inr h
mutual
theorem Rp.plus {p : Addr} (hp : H p = none) : ∀ {d : D} {v : V}, Rp K S H v d → Rp K (plus S p) H v d
  | .non, _, h => by cases h; exact .non
  | .bl b, _, h => by cases h; exact .bl b
  | .int i, _, h => by cases h; exact .int i
  | .str x, _, h => by cases h; exact .str x
  | .lst ds, _, h => by
    cases h with
    | lst h1 h2 => exact .lst (h1.plus hp) (RpA.plus hp h2)
  | .tup ds, _, h => by
    cases h with
    | tup h1 h2 => exact .tup (h1.plus hp) (RpA.plus hp h2)
  | .dic, _, h => by
    cases h with
    | dic h1 h2 => exact .dic h1 fun z => z.elim h2 fun z => by rw [z, hp] at h1; cases h1
  | .ins C, _, h => by
    cases h with
    | ins h1 h2 => exact .ins h1 fun z => z.elim h2 fun z => by rw [z, hp] at h1; cases h1
theorem RpA.plus {p : Addr} (hp : H p = none) : ∀ {ds : List D} {vs : List V}, RpA K S H vs ds → RpA K (plus S p) H vs ds
  | [], _, h => by cases h; exact .nil
  | d :: ds, _, h => by
    cases h with
    | cons h1 h2 => exact .cons (Rp.plus hp h1) (RpA.plus hp h2)
end
/-- less mutable ones -/
theorem SL.less {a : Addr} {xs : List V} (le : ∀ a, S' a → S a) (h : SL K S H a xs) : SL K S' H a xs := ⟨h.1, fun z => h.2 (le _ z)⟩
theorem ST.less {a : Addr} {xs : List V} (le : ∀ a, S' a → S a) (h : ST K S H a xs) : ST K S' H a xs := h.imp (fun h => ⟨h.1, fun z => h.2 (le _ z)⟩) id
mutual
theorem Rp.less (le : ∀ a, S' a → S a) : ∀ {d : D} {v : V}, Rp K S H v d → Rp K S' H v d
  | .non, _, h => by cases h; exact .non
  | .bl b, _, h => by cases h; exact .bl b
  | .int i, _, h => by cases h; exact .int i
  | .str x, _, h => by cases h; exact .str x
  | .lst ds, _, h => by
    cases h with
    | lst h1 h2 => exact .lst (h1.less le) (RpA.less le h2)
  | .tup ds, _, h => by
    cases h with
    | tup h1 h2 => exact .tup (h1.less le) (RpA.less le h2)
  | .dic, _, h => by
    cases h with
    | dic h1 h2 => exact .dic h1 fun z => h2 (le _ z)
  | .ins C, _, h => by
    cases h with
    | ins h1 h2 => exact .ins h1 fun z => h2 (le _ z)
theorem RpA.less (le : ∀ a, S' a → S a) : ∀ {ds : List D} {vs : List V}, RpA K S H vs ds → RpA K S' H vs ds
  | [], _, h => by cases h; exact .nil
  | d :: ds, _, h => by
    cases h with
    | cons h1 h2 => exact .cons (Rp.less le h1) (RpA.less le h2)
end
/-- a mutable object's writing -/
theorem ExS.put {p : Addr} {o : HO} (m : Mem S H) (hp : S p) : ExS S H (upd H p o) := by
  refine ⟨fun a u n h => ?_, fun a s => ?_⟩
  · have ne : a ≠ p := fun z => n (by rw [z]; exact hp)
    rw [upd_ne ne]; exact h
  · by_cases e : a = p
    · exact ⟨o, by rw [e]; exact upd_same⟩
    · obtain ⟨u, h⟩ := m a s
      exact ⟨u, by rw [upd_ne e]; exact h⟩
/-- the walk J gives the data ds -/
def Gen (K : PySem.W.Frag) (S : Addr → Prop) (J : It) (H : Hp) (ds : List D) : Prop :=
  ∀ S' H', Mem S' H' → Up K S H S' H' → (∀ i d, ds[i]? = some d → J.go i H' ∧ ∀ x H'', J.yld i H' x H'' → Ex H' H'' ∧ Rp K S' H'' x d) ∧ J.stop ds.length H'
def EvI (K : PySem.W.Frag) (S : Addr → Prop) (wi : TI) (σ : L2.St) (H : Hp) (ds : List D) : Prop :=
  ∀ H1, Ex H H1 → ∀ R : It → Hp → Prop, (∀ J H2, Ex H1 H2 → Gen K S J H2 ds → R J H2) → wi σ H1 R
/-! ### comprehensions -/
theorem ev_lc {wi : TI} {g : TG} {tt : TT} {te : TE} {vs : List Nat} {ds : List D} {p : D → Bool} {f : D → D} (m : Mem S H) (hi : EvI K S wi σ H ds) (hl : ds.length ≤ 100000)
    (hb : ∀ S' H', Mem S' H' → Up K S H S' H' → Ex H H' → ∀ x d, d ∈ ds → Rp K S' H' x d → g x (wipe σ vs) H' fun σ2 H2 => Ex H' H2 ∧ wipe σ2 vs = wipe σ vs ∧ EvB tt σ2 H2 (p d) ∧ (p d = true → EvD K S' te σ2 H2 (f d)))
    (mono : ∀ x σ H Q Q', (∀ σ2 H2, Q σ2 H2 → Q' σ2 H2) → g x σ H Q → g x σ H Q') :
    EvD K S (tLc wi g tt te vs) σ H (.lst ((ds.filter p).map f)) := fun H1 e1 Q q => hi H1 e1 _ fun J H2 e2 gen D hD => by
  have m2 : Mem S H2 := m.ex (e1.trans e2)
  have nS : ¬ S D := m2.new hD
  have hDH : H D = none := by
    cases h : H D with
    | none => rfl
    | some o => rw [e2 _ _ (e1 _ _ h)] at hD; cases hD
  have exN : ∀ o, Ex H2 (upd H2 D o) := fun o => Evl.Ex.new hD
  have m' : Mem (plus S D) (upd H2 D (.lst [])) := fun b s => by
    rcases s with s | s
    · obtain ⟨o, h⟩ := m2 b s
      exact ⟨o, exN _ _ _ h⟩
    · exact ⟨_, by rw [s]; exact upd_same⟩
  have up0 : Up K S H2 (plus S D) (upd H2 D (.lst [])) := fun v d r => ((r.mono (.of m2 (exN (.lst [])))).less (S' := S) fun _ z => z) |> fun r' => by
    have r2 : Rp K (plus S D) H2 v d := r.plus hD
    have ex' : ExS (plus S D) H2 (upd H2 D (.lst [])) := ⟨fun a o n h => exN _ _ _ h, m'⟩
    exact r2.mono ex'
  refine ⟨fun i mm H' => mm = ds.length - i ∧ i ≤ ds.length ∧ Mem (plus S D) H' ∧ Up K S H2 (plus S D) H' ∧ Ex H2 H' ∧ ∃ acc, H' D = some (.lst acc) ∧ acc.length ≤ i ∧ RpA K (plus S D) H' acc (((ds.take i).filter p).map f), ⟨ds.length, by simp, Nat.zero_le _, m', up0, exN _, [], upd_same, Nat.le_refl _, by simp; exact .nil⟩, ?_⟩
  rintro i mm H' ⟨rfl, hile, mH, up, eH, acc, hacc, hlen, racc⟩
  obtain ⟨gi, gs⟩ := gen _ H' mH up
  by_cases hlt : i < ds.length
  · obtain ⟨d, hd⟩ : ∃ d, ds[i]? = some d := ⟨ds[i], by simp [hlt]⟩
    obtain ⟨go, gy⟩ := gi i d hd
    refine .inr ⟨go, fun H'' => i + 1 ≤ ds.length ∧ Mem (plus S D) H'' ∧ Up K S H2 (plus S D) H'' ∧ Ex H2 H'' ∧ ∃ acc, H'' D = some (.lst acc) ∧ acc.length ≤ i + 1 ∧ RpA K (plus S D) H'' acc (((ds.take (i + 1)).filter p).map f), fun H'' h => ⟨ds.length - (i + 1), by omega, rfl, h⟩, fun x H'' y => ?_⟩
    obtain ⟨ey, rx⟩ := gy x H'' y
    have mH'' := mH.ex ey
    have up'' : Up K S H (plus S D) H'' := fun v d r => (up v d (r.mono (.of m (e1.trans e2)))).mono (.of mH ey)
    refine mono _ _ _ _ _ (fun σ2 H3 ⟨e3, wp, hbB, hbE⟩ => ⟨wp, ?_⟩) (hb _ H'' mH'' up'' ((e1.trans e2).trans (eH.trans ey)) x d (List.mem_of_getElem? hd) rx)
    have tk : ds.take (i + 1) = ds.take i ++ [d] := by rw [List.take_add_one, hd]; rfl
    refine hbB H3 (Evl.Ex.refl _) _ fun H4 e4 => ?_
    have e14 : Ex H' H4 := ey.trans (e3.trans e4)
    cases hp : p d with
    | true =>
      rw [if_pos rfl]
      refine hbE hp H4 e4 _ fun v H5 e5 r5 => ⟨acc, e5 _ _ (e14 _ _ hacc), ?_, ?_⟩
      · have : sizeLine = 16777216 := sizeLine_eq
        omega
      · have m5 : Mem (plus S D) H5 := mH.ex (e14.trans e5)
        have xs5 : ExS (plus S D) H5 (upd H5 D (.lst (acc ++ [v]))) := ExS.put m5 (.inr rfl)
        refine ⟨hlt, xs5.mem, fun v' d' r => ((up v' d' r).mono (.of mH (e14.trans e5))).mono xs5, fun a o h => ?_, acc ++ [v], upd_same, by simp; omega, ?_⟩
        · rw [upd_ne (fun z => by rw [z, hD] at h; cases h)]
          exact (e14.trans e5) _ _ (eH _ _ h)
        · rw [tk]
          simp only [List.filter_append, List.map_append, List.filter_cons, hp, if_true, List.filter_nil, List.map_cons, List.map_nil]
          exact ((racc.mono (.of mH (e14.trans e5))).mono xs5).app (.cons (r5.mono xs5) .nil)
    | false =>
      rw [if_neg Bool.false_ne_true]
      refine ⟨hlt, mH.ex e14, fun v' d' r => (up v' d' r).mono (.of mH e14), eH.trans e14, acc, e14 _ _ hacc, by omega, ?_⟩
      rw [tk]
      simp only [List.filter_append, List.map_append, List.filter_cons, hp, Bool.false_eq_true, if_false, List.filter_nil, List.map_nil, List.append_nil]
      exact racc.mono (.of mH e14)
  · have e : i = ds.length := by omega
    subst e
    refine .inl ⟨gs, q _ _ (e2.trans eH) (.lst ⟨hacc, nS⟩ ?_)⟩
    rw [List.take_length] at racc
    exact racc.less fun a s => .inl s
/-! ### loops -/
theorem ts_for {wi : TI} {g : TG} {tb : TS} {E : Ends} {ds : List D} (hi : EvI K S wi σ H ds)
    (h : ∀ H2, Ex H H2 → ∃ Pv : Nat → L2.St → Hp → Prop, Pv 0 σ H2 ∧ (∀ i σ' H', Pv i σ' H' → ∃ S', Mem S' H' ∧ Up K S H2 S' H') ∧
      (∀ i d σ' H', ds[i]? = some d → Pv i σ' H' → ∀ x H'', Ex H' H'' → (∀ S', Mem S' H' → Up K S H2 S' H' → Rp K S' H'' x d) → g x σ' H'' fun σ2 H3 => tb { E with nx := Pv (i + 1), ct := Pv (i + 1), bk := E.nx } σ2 H3) ∧
      (∀ σ' H', Pv ds.length σ' H' → E.nx σ' H')) : tFor wi g tb E σ H := by
  refine hi H (Evl.Ex.refl _) _ fun J H2 e2 gen => ?_
  obtain ⟨Pv, h0, hu, hs, hd⟩ := h H2 e2
  refine ⟨fun i m σ' H' => m = ds.length - i ∧ i ≤ ds.length ∧ Pv i σ' H', ⟨ds.length, by simp, Nat.zero_le _, h0⟩, ?_⟩
  rintro i m σ' H' ⟨rfl, hi, p⟩
  obtain ⟨S', mS, up⟩ := hu i σ' H' p
  obtain ⟨gi, gs⟩ := gen S' H' mS up
  by_cases hlt : i < ds.length
  · obtain ⟨d, hd'⟩ : ∃ d, ds[i]? = some d := ⟨ds[i], by simp [hlt]⟩
    obtain ⟨go, gy⟩ := gi i d hd'
    refine .inr ⟨go, Pv (i + 1), fun σ2 H2 q => ⟨ds.length - (i + 1), by omega, rfl, hlt, q⟩, fun x H'' y => ?_⟩
    exact hs i d σ' H' hd' p x H'' (gy x H'' y).1 fun S2 m2 u2 => ((gen S2 H' m2 u2).1 i d hd').2 x H'' y |>.2
  · have e : i = ds.length := by omega
    subst e
    exact .inl ⟨gs, hd σ' H' p⟩
/-! ### the sources -/
/-- a source that gives data -/
def Rs (K : PySem.W.Frag) (S : Addr → Prop) (H : Hp) (k : Sv) (ds : List D) : Prop := ∃ xs, k.At K H xs ∧ RpA K S H xs ds
theorem str_arr {x : Str} : RpA K S H (x.cps.toList.map fun c => V.str ⟨#[c]⟩) (x.cps.toList.map fun c => D.str ⟨#[c]⟩) := by
  have h := rpA_strs (K := K) (S := S) (H := H) (x.cps.toList.map fun c => (⟨#[c]⟩ : Str))
  rw [List.map_map, List.map_map] at h
  exact h
/-- data that can be walked -/
def items : D → List D
  | .lst ds => ds
  | .tup ds => ds
  | .str x => x.cps.toList.map fun c => D.str ⟨#[c]⟩
  | _ => []
def walks : D → Bool
  | .lst _ => true
  | .tup _ => true
  | .str _ => true
  | _ => false
/-- the source of a value, whatever happens to the heap -/
theorem src {v : V} {d : D} (w : walks d = true) (r : Rp K S H v d) : ∃ k : Sv, v = k.v ∧ ∀ S' H', Up K S H S' H' → Rs K S' H' k (items d) := by
  cases r with
  | @lst a xs ds h1 h2 =>
    refine ⟨.l a, rfl, fun S' H' u => ?_⟩
    have r' := u _ _ (.lst h1 h2)
    cases r' with
    | lst h3 h4 => exact ⟨_, h3.sq, h4⟩
  | @tup a xs ds h1 h2 =>
    refine ⟨.t a, rfl, fun S' H' u => ?_⟩
    have r' := u _ _ (.tup h1 h2)
    cases r' with
    | tup h3 h4 => exact ⟨_, h3.sq, h4⟩
  | str x => exact ⟨.s x, rfl, fun S' H' u => ⟨_, rfl, str_arr⟩⟩
  | non => cases w
  | bl => cases w
  | int => cases w
  | dic => cases w
  | ins => cases w
theorem gen_S {k : Sv} {ds : List D} (h : ∀ S' H', Up K S H S' H' → Rs K S' H' k ds) : Gen K S (ItS K k) H ds := fun S' H' mS up => by
  obtain ⟨xs, hq, rA⟩ := h S' H' up
  have hl := rA.length
  constructor
  · intro i d hd
    obtain ⟨x, hx, rx⟩ := rA.get hd
    cases k with
    | l a => exact ⟨⟨xs, x, hq, hx⟩, fun y H'' ⟨e, hy⟩ => by
        subst e
        have := hy xs hq
        rw [hx] at this; cases this
        exact ⟨Evl.Ex.refl _, rx⟩⟩
    | t a => exact ⟨⟨xs, x, hq, hx⟩, fun y H'' ⟨e, hy⟩ => by
        subst e
        have := hy xs hq
        rw [hx] at this; cases this
        exact ⟨Evl.Ex.refl _, rx⟩⟩
    | s z =>
      have hz : xs = z.cps.toList.map fun c => .str ⟨#[c]⟩ := hq
      have hi : i < z.cps.size := by
        have := (List.getElem?_eq_some_iff.mp hx).1
        rw [hz] at this; simpa using this
      refine ⟨hi, fun y H'' ⟨e, c, hc, hy⟩ => ?_⟩
      subst e
      refine ⟨Evl.Ex.refl _, ?_⟩
      have : x = y := by
        rw [hz] at hx
        simp [hc] at hx
        rw [← hx, hy]
      rw [← this]; exact rx
  · cases k with
    | l a => exact ⟨xs, hq, by omega⟩
    | t a => exact ⟨xs, hq, by omega⟩
    | s z =>
      have hz : xs = z.cps.toList.map fun c => .str ⟨#[c]⟩ := hq
      show z.cps.size ≤ ds.length
      rw [← hl, hz]; simp
theorem gen_E {k : Sv} {ds : List D} (h : ∀ S' H', Up K S H S' H' → Rs K S' H' k ds) : Gen K S (ItE K k) H (ds.mapIdx fun i d => .tup [.int i, d]) := fun S' H' mS up => by
  obtain ⟨xs, hq, rA⟩ := h S' H' up
  have hl := rA.length
  constructor
  · intro i d hd
    simp only [List.getElem?_mapIdx, Option.map_eq_some_iff] at hd
    obtain ⟨d', hd', rfl⟩ := hd
    obtain ⟨x, hx, rx⟩ := rA.get hd'
    refine ⟨⟨xs, x, hq, hx⟩, fun y H'' ⟨T, x', ey, hT, eH, hx'⟩ => ?_⟩
    have := hx' xs hq
    rw [hx] at this; cases this
    subst ey eH
    exact ⟨Evl.Ex.new hT, .newT mS (.cons (.int _) (.cons rx .nil)) hT⟩
  · exact ⟨xs, hq, by simp [hl]⟩
theorem gen_Z {k1 k2 : Sv} {ds es : List D} (h1 : ∀ S' H', Up K S H S' H' → Rs K S' H' k1 ds) (h2 : ∀ S' H', Up K S H S' H' → Rs K S' H' k2 es) : Gen K S (ItZ K k1 k2) H ((ds.zip es).map fun p => .tup [p.1, p.2]) := fun S' H' mS up => by
  obtain ⟨xs, hq, rA⟩ := h1 S' H' up
  obtain ⟨ys, hq2, rA2⟩ := h2 S' H' up
  have hl := rA.length
  have hl2 := rA2.length
  constructor
  · intro i d hd
    simp only [List.getElem?_map, Option.map_eq_some_iff] at hd
    obtain ⟨⟨d1, d2⟩, hd', rfl⟩ := hd
    rw [List.getElem?_zip_eq_some] at hd'
    obtain ⟨x, hx, rx⟩ := rA.get hd'.1
    obtain ⟨y, hy, ry⟩ := rA2.get hd'.2
    refine ⟨⟨xs, ys, x, y, hq, hq2, hx, hy⟩, fun z H'' ⟨T, x', y', ey, hT, eH, hx', hy'⟩ => ?_⟩
    have q1 := hx' xs hq
    rw [hx] at q1; cases q1
    have q2 := hy' ys hq2
    rw [hy] at q2; cases q2
    subst ey eH
    exact ⟨Evl.Ex.new hT, .newT mS (.cons rx (.cons ry .nil)) hT⟩
  · refine ⟨xs, ys, hq, hq2, ?_, ?_, ?_⟩ <;> (simp; omega)
theorem gen_EZ {k1 k2 : Sv} {ds es : List D} (h1 : ∀ S' H', Up K S H S' H' → Rs K S' H' k1 ds) (h2 : ∀ S' H', Up K S H S' H' → Rs K S' H' k2 es) : Gen K S (ItEZ K k1 k2) H ((ds.zip es).mapIdx fun i p => .tup [.int i, .tup [p.1, p.2]]) := fun S' H' mS up => by
  obtain ⟨xs, hq, rA⟩ := h1 S' H' up
  obtain ⟨ys, hq2, rA2⟩ := h2 S' H' up
  have hl := rA.length
  have hl2 := rA2.length
  constructor
  · intro i d hd
    simp only [List.getElem?_mapIdx, Option.map_eq_some_iff] at hd
    obtain ⟨⟨d1, d2⟩, hd', rfl⟩ := hd
    rw [List.getElem?_zip_eq_some] at hd'
    obtain ⟨x, hx, rx⟩ := rA.get hd'.1
    obtain ⟨y, hy, ry⟩ := rA2.get hd'.2
    refine ⟨⟨xs, ys, x, y, hq, hq2, hx, hy⟩, fun z H'' ⟨T, U, x', y', ey, hU, hT, eH, hx', hy'⟩ => ?_⟩
    have q1 := hx' xs hq
    rw [hx] at q1; cases q1
    have q2 := hy' ys hq2
    rw [hy] at q2; cases q2
    subst ey eH
    exact ⟨(Evl.Ex.new hU).trans (Evl.Ex.new hT), .newT (mS.ex (Evl.Ex.new hU)) (.cons (.int _) (.cons (.newT mS (.cons rx (.cons ry .nil)) hU) .nil)) hT⟩
  · refine ⟨xs, ys, hq, hq2, ?_, ?_, ?_⟩ <;> (simp; omega)
theorem gen_R {lo : Int} {n : Nat} : Gen K S (Itr lo n) H ((List.range n).map fun i : Nat => .int (lo + i)) := fun S' H' mS up => by
  constructor
  · intro i d hd
    simp only [List.getElem?_map, Option.map_eq_some_iff] at hd
    obtain ⟨j, hj, rfl⟩ := hd
    obtain ⟨hi, e⟩ := List.getElem?_eq_some_iff.mp hj
    have hi' : i < n := by simpa using hi
    have e' : i = j := by simpa using e
    subst e'
    exact ⟨hi', fun x H'' ⟨e1, e2⟩ => by subst e1 e2; exact ⟨Evl.Ex.refl _, .int _⟩⟩
  · show n ≤ _
    simp
theorem ei_seq {te : TE} {d : D} (m : Mem S H) (h : EvD K S te σ H d) (w : walks d = true) : EvI K S (iSeq K te) σ H (items d) := fun H1 e1 R q => h H1 e1 _ fun v H2 e2 r2 => by
  obtain ⟨k, ev, hk⟩ := src w r2
  obtain ⟨xs, hx, _⟩ := hk S H2 Up.refl
  exact ⟨k, ev, ⟨xs, hx⟩, q _ H2 e2 (gen_S hk)⟩
theorem ei_enum {ta : TA} {d : D} (m : Mem S H) (h : EvA K S ta σ H [d]) (w : walks d = true) : EvI K S (iEnumS K ta) σ H ((items d).mapIdx fun i d => .tup [.int i, d]) := fun H1 e1 R q => h H1 e1 _ fun vs H2 e2 r2 => by
  cases r2 with
  | cons r2 rn =>
    cases rn
    obtain ⟨k, ev, hk⟩ := src w r2
    subst ev
    obtain ⟨xs, hx, _⟩ := hk S H2 Up.refl
    exact ⟨k, rfl, ⟨xs, hx⟩, q _ H2 e2 (gen_E hk)⟩
theorem ei_zip {ta : TA} {d d2 : D} (m : Mem S H) (h : EvA K S ta σ H [d, d2]) (w : walks d = true) (w2 : walks d2 = true) : EvI K S (iZipS K ta) σ H (((items d).zip (items d2)).map fun p => .tup [p.1, p.2]) := fun H1 e1 R q => h H1 e1 _ fun vs H2 e2 r2 => by
  cases r2 with
  | cons r2 rn =>
    cases rn with
    | cons r3 rn =>
      cases rn
      obtain ⟨k, ev, hk⟩ := src w r2
      obtain ⟨k2, ev2, hk2⟩ := src w2 r3
      subst ev ev2
      obtain ⟨xs, hx, _⟩ := hk S H2 Up.refl
      obtain ⟨ys, hy, _⟩ := hk2 S H2 Up.refl
      exact ⟨k, k2, rfl, ⟨xs, hx⟩, ⟨ys, hy⟩, q _ H2 e2 (gen_Z hk hk2)⟩
theorem ei_ezip {ta : TA} {d d2 : D} (m : Mem S H) (h : EvA K S ta σ H [d, d2]) (w : walks d = true) (w2 : walks d2 = true) : EvI K S (iEnumZipS K ta) σ H (((items d).zip (items d2)).mapIdx fun i p => .tup [.int i, .tup [p.1, p.2]]) := fun H1 e1 R q => h H1 e1 _ fun vs H2 e2 r2 => by
  cases r2 with
  | cons r2 rn =>
    cases rn with
    | cons r3 rn =>
      cases rn
      obtain ⟨k, ev, hk⟩ := src w r2
      obtain ⟨k2, ev2, hk2⟩ := src w2 r3
      subst ev ev2
      obtain ⟨xs, hx, _⟩ := hk S H2 Up.refl
      obtain ⟨ys, hy, _⟩ := hk2 S H2 Up.refl
      exact ⟨k, k2, rfl, ⟨xs, hx⟩, ⟨ys, hy⟩, q _ H2 e2 (gen_EZ hk hk2)⟩
theorem ei_range1 {ta : TA} {n : Int} (h : EvA K S ta σ H [.int n]) (h1 : -(2 ^ 62) ≤ n) (h2 : n < 2 ^ 62) : EvI K S (iRng1 ta) σ H ((List.range n.toNat).map fun i : Nat => .int (0 + i)) := fun H1 e1 R q => h H1 e1 _ fun vs H2 e2 r2 => by
  cases r2 with
  | cons r2 rn =>
    cases rn; cases r2
    exact ⟨n, rfl, h1, h2, q _ H2 e2 gen_R⟩
theorem ei_range2 {ta : TA} {lo hi : Int} (h : EvA K S ta σ H [.int lo, .int hi]) (h1 : -(2 ^ 62) ≤ lo) (h2 : lo < 2 ^ 62) (h3 : -(2 ^ 62) ≤ hi) (h4 : hi < 2 ^ 62) : EvI K S (iRng2 ta) σ H ((List.range (hi - lo).toNat).map fun i : Nat => .int (lo + i)) := fun H1 e1 R q => h H1 e1 _ fun vs H2 e2 r2 => by
  cases r2 with
  | cons r2 rn =>
    cases rn with
    | cons r3 rn =>
      cases rn; cases r2; cases r3
      exact ⟨lo, hi, rfl, ⟨h1, h2, h3, h4⟩, q _ H2 e2 gen_R⟩
end
end Nv
set_option Elab.async false
set_option linter.all false
set_option maxRecDepth 100000
set_option maxHeartbeats 4000000
/-! More rules on data. -/
namespace Nv
open PySem L2 StX NvZ
section
variable {K : PySem.W.Frag} {S S' : Addr → Prop} {σ : L2.St} {H H' H1 : Hp} {te ta tb : TE} {d d1 d2 : D}
/-! ### slices -/
def cutD (xs : List D) (lo hi : Option Int) : List D := (xs.drop (HT.sIx xs.length 0 lo)).take (HT.sIx xs.length xs.length hi - HT.sIx xs.length 0 lo)
theorem RpA.cut {vs : List V} {ds : List D} (lo hi : Option Int) (h : RpA K S H vs ds) : RpA K S H (cutV vs lo hi) (cutD ds lo hi) := by
  unfold cutV cutD
  rw [h.length]
  exact (h.drop _).take _
theorem cutD_length (ds : List D) (lo hi : Option Int) : (cutD ds lo hi).length ≤ ds.length := by
  unfold cutD
  rw [List.length_take, List.length_drop]; omega
theorem cut_from {ds : List D} {n : Nat} (hn : n ≤ ds.length) : cutD ds (some (n : Int)) none = ds.drop n := by
  unfold cutD
  rw [HT.sIx_nat, HT.sIx_none, Nat.min_eq_left hn]
  exact List.take_of_length_le (by rw [List.length_drop]; exact Nat.le_refl _)
theorem cut_to {ds : List D} {n : Nat} (hn : n ≤ ds.length) : cutD ds none (some (n : Int)) = ds.take n := by
  unfold cutD
  rw [HT.sIx_nat, HT.sIx_none, Nat.min_eq_left hn]
  simp
theorem cut_last {ds : List D} : cutD ds none (some (-1)) = ds.take (ds.length - 1) := by
  unfold cutD
  rw [HT.sIx_none]
  have : HT.sIx ds.length ds.length (some (-1)) = ds.length - 1 := by
    show (if (-1 : Int) < 0 then ((-1 : Int) + (ds.length : Int)).toNat else min (-1 : Int).toNat ds.length) = _
    rw [if_pos (by decide)]; omega
  rw [this]; simp
def rSl (K : PySem.W.Frag) : V → Option Int → Option Int → Hp → VK → Prop := fun x lo hi H Q => rSlL K x lo hi H Q ∨ rSlT K x lo hi H Q
theorem sl_seq {X : Cx} : SlR X (rSl X.K) := sl_list.or sl_tup
theorem EvO.mono {to : TO} {o : Option Int} (e : Ex H H') (h : EvO to σ H o) : EvO to σ H' o := fun H1 a Q q => h H1 (e.trans a) Q q
theorem eo_none : EvO tNoPart σ H none := fun H1 _ Q q => q H1 (Evl.Ex.refl _)
theorem eo_some {i : Int} (h : EvD K S te σ H (.int i)) : EvO (tPart te) σ H (some i) := fun H1 e Q q => h H1 e _ fun v H2 e2 r2 => by cases r2; exact ⟨i, rfl, q H2 e2⟩
theorem ev_slL {tl th : TO} {ds : List D} {lo hi : Option Int} (m : Mem S H) (h : EvD K S te σ H (.lst ds)) (hl : EvO tl σ H lo) (hh : EvO th σ H hi) : EvD K S (tSl (rSl K) te tl th) σ H (.lst (cutD ds lo hi)) := fun H1 e Q q =>
  h H1 e _ fun v H2 e2 r2 => hl H2 (e.trans e2) _ fun H3 e3 => hh H3 ((e.trans e2).trans e3) _ fun H4 e4 => by
    have r4 := r2.mono (.of (m.ex (e.trans e2)) (e3.trans e4))
    cases r4 with
    | @lst a xs _ h1 h2 =>
      exact .inl ⟨a, xs, rfl, h1.sq, fun p hp => q _ _ (((e2.trans e3).trans e4).trans (Evl.Ex.new hp)) (.newL (m.ex (((e.trans e2).trans e3).trans e4)) (h2.cut lo hi) hp)⟩
theorem ev_slT {tl th : TO} {ds : List D} {lo hi : Option Int} (m : Mem S H) (h : EvD K S te σ H (.tup ds)) (hl : EvO tl σ H lo) (hh : EvO th σ H hi) (hw : ¬ (HT.sIx ds.length 0 lo = 0 ∧ HT.sIx ds.length ds.length hi = ds.length)) : EvD K S (tSl (rSl K) te tl th) σ H (.tup (cutD ds lo hi)) := fun H1 e Q q =>
  h H1 e _ fun v H2 e2 r2 => hl H2 (e.trans e2) _ fun H3 e3 => hh H3 ((e.trans e2).trans e3) _ fun H4 e4 => by
    have r4 := r2.mono (.of (m.ex (e.trans e2)) (e3.trans e4))
    cases r4 with
    | @tup a xs _ h1 h2 =>
      refine .inr ⟨a, xs, rfl, h1.sq, ?_, fun p hp => q _ _ (((e2.trans e3).trans e4).trans (Evl.Ex.new hp)) (.newT (m.ex (((e.trans e2).trans e3).trans e4)) (h2.cut lo hi) hp)⟩
      rw [h2.length]; exact hw
/-! ### len -/
def lenD : D → Nat
  | .lst ds => ds.length
  | .tup ds => ds.length
  | .str x => x.length
  | _ => 0
def lenOk : D → Bool
  | .lst _ => true
  | .tup _ => true
  | .str x => decide (x.length ≤ 16777216)
  | _ => false
def rLenV (K : PySem.W.Frag) : List V → Hp → VK → Prop := fun xs H Q => ∃ x n, xs = [x] ∧ LenV K x H n ∧ Q (.int n) H
theorem ra_len (h : lenOk d = true) : RAD K S (rLenV K) H [d] (.int (lenD d)) := fun H1 _ vs r Q q => by
  cases r with
  | @cons v d vs ds r rn =>
    cases rn
    refine ⟨v, lenD d, rfl, ?_, q _ _ (Evl.Ex.refl _) (.int _)⟩
    cases r with
    | lst h1 h2 => exact .inl ⟨_, h1.sq, h2.length.symm⟩
    | tup h1 h2 => exact .inr ⟨_, h1.sq, h2.length.symm⟩
    | str x => exact ⟨by rw [sizeLine_eq]; exact of_decide_eq_true h, rfl⟩
    | non => cases h
    | bl => cases h
    | int => cases h
    | dic => cases h
    | ins => cases h
/-! ### items -/
theorem r_ixL {ds : List D} {j : Nat} (h : ds[j]? = some d) : R2D K S (rIx K) H (.lst ds) (.int j) d := fun H1 _ x y rx ry Q q => by
  cases ry
  cases rx with
  | @lst a xs _ h1 h2 =>
    obtain ⟨v, hv, rv⟩ := h2.get h
    exact .inl ⟨a, xs, j, v, rfl, rfl, h1.sq, atI_nat hv, q _ _ (Evl.Ex.refl _) rv⟩
theorem r_ixT {ds : List D} {j : Nat} (h : ds[j]? = some d) : R2D K S (rIx K) H (.tup ds) (.int j) d := fun H1 _ x y rx ry Q q => by
  cases ry
  cases rx with
  | @tup a xs _ h1 h2 =>
    obtain ⟨v, hv, rv⟩ := h2.get h
    exact .inr (.inl ⟨a, xs, j, v, rfl, rfl, h1.sq, atI_nat hv, q _ _ (Evl.Ex.refl _) rv⟩)
theorem r_ixS {x : Str} {j c : Nat} (hz : x.length ≤ 16777216) (h : x.cps[j]? = some c) : R2D K S (rIx K) H (.str x) (.int j) (.str ⟨#[c]⟩) := fun H1 _ x y rx ry Q q => by
  cases ry; cases rx
  exact .inr (.inr ⟨_, j, c, rfl, rfl, by rw [sizeLine_eq]; exact hz, atI_nat (by simpa using h), q _ _ (Evl.Ex.refl _) (.str _)⟩)
/-! ### in -/
theorem inV_strs {x : Str} {ws : List Str} : inV (.str x) (ws.map V.str) = decide (x ∈ ws) := by
  unfold inV
  induction ws with
  | nil => rfl
  | cons w ws ih =>
    rw [List.map_cons, List.any_cons, ih]
    show ((w == x) || _) = _
    by_cases e : x = w
    · subst e; simp
    · have : (w == x) = false := by simp; exact fun z => e z.symm
      rw [this]; simp [e]
theorem flat_strs (ws : List Str) : (ws.map V.str).all flatV = true := by
  induction ws with
  | nil => rfl
  | cons w ws ih => rw [List.map_cons, List.all_cons, ih]; rfl
/-- a list or tuple of texts -/
def strsD : D → Option (List Str)
  | .lst ds => some (ds.filterMap fun d => match d with | .str x => some x | _ => none)
  | _ => none
theorem r_inL {neg : Bool} {x : Str} {ws : List Str} : R2D K S (rIn K neg) H (.str x) (.lst (ws.map D.str)) (.bl (if neg then !decide (x ∈ ws) else decide (x ∈ ws))) := fun H1 _ u y rx ry Q q => by
  cases rx
  cases ry with
  | @lst a xs _ h1 h2 =>
    obtain rfl := h2.strs
    refine ⟨a, _, rfl, .inl h1.sq, rfl, flat_strs ws, q _ _ (Evl.Ex.refl _) ?_⟩
    rw [inV_strs]; exact .bl _
theorem r_inT {neg : Bool} {x : Str} {ws : List Str} : R2D K S (rIn K neg) H (.str x) (.tup (ws.map D.str)) (.bl (if neg then !decide (x ∈ ws) else decide (x ∈ ws))) := fun H1 _ u y rx ry Q q => by
  cases rx
  cases ry with
  | @tup a xs _ h1 h2 =>
    obtain rfl := h2.strs
    refine ⟨a, _, rfl, .inr h1.sq, rfl, flat_strs ws, q _ _ (Evl.Ex.refl _) ?_⟩
    rw [inV_strs]; exact .bl _
/-! ### == of data -/
mutual
def pd : D → PyData
  | .non => .none
  | .bl b => .bool b
  | .int i => .int i
  | .str x => .str x
  | .lst ds => .list (pdA ds)
  | .tup ds => .tuple (pdA ds)
  | .dic => .none
  | .ins _ => .none
def pdA : List D → List PyData
  | [] => []
  | d :: ds => pd d :: pdA ds
end
mutual
def plainD : D → Bool
  | .lst ds => plainA ds
  | .tup ds => plainA ds
  | .dic => false
  | .ins _ => false
  | .str x => PyData.strOk x
  | _ => true
def plainA : List D → Bool
  | [] => true
  | d :: ds => plainD d && plainA ds
end
mutual
theorem Rp.dp : ∀ {d : D} {v : V}, plainD d = true → Rp K S H v d → Dp K H v (pd d)
  | .non, _, _, h => by cases h; exact .non
  | .bl b, _, _, h => by cases h; exact .bl b
  | .int i, _, _, h => by cases h; exact .int i
  | .str x, _, _, h => by cases h; exact .str x
  | .lst ds, _, p, h => by
    cases h with
    | lst h1 h2 => exact .lst h1.sq (RpA.dp p h2)
  | .tup ds, _, p, h => by
    cases h with
    | tup h1 h2 => exact .tup h1.sq (RpA.dp p h2)
  | .dic, _, p, h => nomatch p
  | .ins C, _, p, h => nomatch p
theorem RpA.dp : ∀ {ds : List D} {vs : List V}, plainA ds = true → RpA K S H vs ds → DpAll K H vs (pdA ds)
  | [], _, _, h => by cases h; exact .nil
  | d :: ds, _, p, h => by
    have p' : plainD d = true ∧ plainA ds = true := by simpa [plainA] using p
    cases h with
    | cons h1 h2 => exact .cons (Rp.dp p'.1 h1) (RpA.dp p'.2 h2)
end
mutual
theorem lay_pd : ∀ d : D, plainD d = true → (pd d).canLay0 = true
  | .non, _ => rfl
  | .bl _, _ => rfl
  | .int _, _ => rfl
  | .str _, h => h
  | .lst ds, h => by simp only [pd, PyData.canLay0]; exact lay_pdA ds h
  | .tup ds, h => by simp only [pd, PyData.canLay0]; exact lay_pdA ds h
  | .dic, _ => rfl
  | .ins _, _ => rfl
theorem lay_pdA : ∀ ds : List D, plainA ds = true → PyData.canLayAll0 (pdA ds) = true
  | [], _ => rfl
  | d :: ds, h => by
    have p' : plainD d = true ∧ plainA ds = true := by simpa [plainA] using h
    simp only [pdA, PyData.canLayAll0, lay_pd d p'.1, lay_pdA ds p'.2, Bool.and_self]
end
mutual
def dep : D → Nat
  | .lst ds => depA ds + 1
  | .tup ds => depA ds + 1
  | _ => 0
def depA : List D → Nat
  | [] => 0
  | d :: ds => max (dep d) (depA ds)
end
mutual
theorem dep_pd : ∀ d : D, (pd d).depth = dep d
  | .non => rfl
  | .bl _ => rfl
  | .int _ => rfl
  | .str _ => rfl
  | .lst ds => by simp only [pd, PyData.depth, dep, dep_pdA ds]
  | .tup ds => by simp only [pd, PyData.depth, dep, dep_pdA ds]
  | .dic => rfl
  | .ins _ => rfl
theorem dep_pdA : ∀ ds : List D, PyData.depthAll (pdA ds) = depA ds
  | [] => rfl
  | d :: ds => by simp only [pdA, PyData.depthAll, depA, dep_pd d, dep_pdA ds]
end
theorem shp (p : plainD d = true) (h : dep d ≤ 64) : SeqAt.shaped (pd d) = true := by
  unfold SeqAt.shaped
  rw [lay_pd d p, dep_pd]
  simpa using h
def eqD (d e : D) : Bool := PyData.eqv (pd d) (pd e)
theorem r_eqD (p1 : plainD d1 = true) (p2 : plainD d2 = true) (h1 : dep d1 ≤ 64) (h2 : dep d2 ≤ 64) : R2D K S (rEqD K) H d1 d2 (.bl (eqD d1 d2)) := fun H1 _ x y rx ry Q q =>
  ⟨_, _, rx.dp p1, ry.dp p2, shp p1 h1, shp p2 h2, q _ _ (Evl.Ex.refl _) (.bl _)⟩
theorem r_neD (p1 : plainD d1 = true) (p2 : plainD d2 = true) (h1 : dep d1 ≤ 64) (h2 : dep d2 ≤ 64) : R2D K S (rNeD K) H d1 d2 (.bl (!eqD d1 d2)) := fun H1 _ x y rx ry Q q =>
  ⟨_, _, rx.dp p1, ry.dp p2, shp p1 h1, shp p2 h2, q _ _ (Evl.Ex.refl _) (.bl _)⟩
/-! ### all, str, int, tuple, join, split -/
theorem ra_all {bs : List Bool} : RAD K S (rAll K) H [.lst (bs.map D.bl)] (.bl (bs.all id)) := fun H1 _ vs r Q q => by
  cases r with
  | cons r rn =>
    cases rn
    cases r with
    | @lst a xs _ h1 h2 =>
      obtain rfl := h2.bools
      exact ⟨a, bs, rfl, h1.sq, q _ _ (Evl.Ex.refl _) (.bl _)⟩
def istr (i : Int) : Str := toString i
def rStrI : List V → Hp → VK → Prop := fun xs H Q => ∃ i : Int, xs = [.int i] ∧ i.natAbs.log2 < 1920 ∧ Q (.str (toString i)) H
theorem ra_str {i : Int} (h : i.natAbs.log2 < 1920) : RAD K S rStrI H [.int i] (.str (istr i)) := fun H1 _ vs r Q q => by
  cases r with
  | cons r rn => cases rn; cases r; exact ⟨i, rfl, h, q _ _ (Evl.Ex.refl _) (.str _)⟩
def rIntI : List V → Hp → VK → Prop := fun xs H Q => (∃ i, xs = [.int i] ∧ Q (.int i) H) ∨ ∃ k, xs = [.bl k] ∧ Q (.int (if k then 1 else 0)) H
theorem ra_int {i : Int} : RAD K S rIntI H [.int i] (.int i) := fun H1 _ vs r Q q => by
  cases r with
  | cons r rn => cases rn; cases r; exact .inl ⟨i, rfl, q _ _ (Evl.Ex.refl _) (.int _)⟩
theorem ra_intB {k : Bool} : RAD K S rIntI H [.bl k] (.int (if k then 1 else 0)) := fun H1 _ vs r Q q => by
  cases r with
  | cons r rn => cases rn; cases r; exact .inr ⟨k, rfl, q _ _ (Evl.Ex.refl _) (.int _)⟩
def rIntS : List V → Hp → VK → Prop := fun xs H Q => ∃ a n, xs = [.str a] ∧ PySem.intText? a = some n ∧ a.length ≤ 640 ∧ Q (.int n) H
theorem ra_intS {a : Str} {n : Int} (h : PySem.intText? a = some n) (hl : a.length ≤ 640) : RAD K S rIntS H [.str a] (.int n) := fun H1 _ vs r Q q => by
  cases r with
  | cons r rn => cases rn; cases r; exact ⟨a, n, rfl, h, hl, q _ _ (Evl.Ex.refl _) (.int _)⟩
def rTupOf (K : PySem.W.Frag) : List V → Hp → VK → Prop := fun xs H Q => ∃ p ys, xs = [.ref p] ∧ ((SqL K H p ys ∧ ∀ l, H l = none → Q (.ref l) (upd H l (.tup ys))) ∨ (SqT K H p ys ∧ Q (.ref p) H))
theorem ra_tup {ds : List D} (m : Mem S H) : RAD K S (rTupOf K) H [.lst ds] (.tup ds) := fun H1 e vs r Q q => by
  cases r with
  | cons r rn =>
    cases rn
    cases r with
    | @lst a xs _ h1 h2 => exact ⟨a, xs, rfl, .inl ⟨h1.sq, fun p hp => q _ _ (Evl.Ex.new hp) (.newT (m.ex e) h2 hp)⟩⟩
def rJoin (K : PySem.W.Frag) : V → List V → Hp → VK → Prop := fun x xs H Q => ∃ a p, ∃ ys : List Str, x = .str a ∧ xs = [.ref p] ∧ (SqL K H p (ys.map V.str) ∨ SqT K H p (ys.map V.str)) ∧
      (ys.map (·.length)).sum + ys.length * a.length ≤ 16777216 ∧ Q (.str (Txt.join a ys)) H
theorem ev_join {a : Str} {ys : List Str} (m : Mem S H) (h1 : EvD K S ta σ H (.str a)) (h2 : EvD K S tb σ H (.lst (ys.map D.str))) (hz : (ys.map (·.length)).sum + ys.length * a.length ≤ 16777216) : EvD K S (tM1 (rJoin K) ta tb) σ H (.str (Txt.join a ys)) := fun H1 e Q q =>
  h1 H1 e _ fun v H2 e2 r2 => by
    cases r2
    refine ⟨⟨_, rfl⟩, h2 H2 (e.trans e2) _ fun w H3 e3 r3 => ?_⟩
    cases r3 with
    | @lst p xs _ h3 h4 =>
      obtain rfl := h4.strs
      exact ⟨a, p, ys, rfl, rfl, .inl h3.sq, hz, q _ _ (e2.trans e3) (.str _)⟩
def rSplit : V → List V → Hp → VK → Prop := fun x xs H Q => ∃ a b, x = .str a ∧ xs = [.str b] ∧ (b.length == 0) = false ∧ a.length + 2 ≤ sizeLine ∧ rNewStrs (Txt.split a b) H Q
theorem ev_split {a b : Str} (m : Mem S H) (h1 : EvD K S ta σ H (.str a)) (h2 : EvD K S tb σ H (.str b)) (hb : (b.length == 0) = false) (hz : a.length ≤ 16777214) : EvD K S (tM1 rSplit ta tb) σ H (.lst ((Txt.split a b).map D.str)) := fun H1 e Q q =>
  h1 H1 e _ fun v H2 e2 r2 => by
    cases r2
    refine ⟨⟨_, rfl⟩, h2 H2 (e.trans e2) _ fun w H3 e3 r3 => ?_⟩
    cases r3
    refine ⟨a, b, rfl, rfl, hb, by rw [sizeLine_eq]; omega, fun p hp => q _ _ ((e2.trans e3).trans (Evl.Ex.new hp)) (.newL (m.ex ((e.trans e2).trans e3)) (rpA_strs _) hp)⟩
/-! ### + -/
theorem r_cat {ds es : List D} (m : Mem S H) (hz : ds.length + es.length ≤ 100000) : R2D K S rCat H (.lst ds) (.lst es) (.lst (ds ++ es)) := fun H1 e x y rx ry Q q => by
  cases rx with
  | @lst a xs _ h1 h2 =>
    cases ry with
    | @lst b ys _ h3 h4 =>
      exact ⟨a, b, xs, ys, rfl, rfl, h1.1, h3.1, by rw [h2.length, h4.length, sizeLine_eq]; omega, fun p hp => q _ _ (Evl.Ex.new hp) (.newL (m.ex e) (h2.app h4) hp)⟩
theorem r_catT {ds es : List D} (m : Mem S H) (h0 : ds ≠ []) (h1 : es ≠ []) (hz : ds.length + es.length ≤ 100000) : R2D K S (rCatT K) H (.tup ds) (.tup es) (.tup (ds ++ es)) := fun H1 e x y rx ry Q q => by
  cases rx with
  | @tup a xs _ h1 h2 =>
    cases ry with
    | @tup b ys _ h3 h4 =>
      have n1 : ds.length ≠ 0 := fun z => h0 (List.length_eq_zero_iff.mp z)
      have n2 : es.length ≠ 0 := fun z => absurd (List.length_eq_zero_iff.mp z) (by assumption)
      exact ⟨a, b, xs, ys, rfl, rfl, h1.sq, h3.sq, fun z => n1 (by rw [← h2.length, z]; rfl), by rw [h2.length, h4.length, sizeLine_eq]; omega, fun z => absurd (by rw [← h4.length, z]; rfl) n2, fun _ p hp => q _ _ (Evl.Ex.new hp) (.newT (m.ex e) (h2.app h4) hp)⟩
def rAddS : R2 := fun x y H Q => ∃ i j, x = .str i ∧ y = .str j ∧ i.length + j.length ≤ sizeLine ∧ Q (.str (i ++ j)) H
theorem r_addS {a b : Str} (hz : a.length + b.length ≤ 16777216) : R2D K S rAddS H (.str a) (.str b) (.str (a ++ b)) := fun H1 _ x y rx ry Q q => by
  cases rx; cases ry
  exact ⟨a, b, rfl, rfl, by rw [sizeLine_eq]; exact hz, q _ _ (Evl.Ex.refl _) (.str _)⟩
/-! ### a written dict of the module -/
def rKIn (K : PySem.W.Frag) (dd : Addr) : R2 := fun x y H Q => ∃ (z : Str) (r : Option Value), x = .str z ∧ y = .ref dd ∧ PySem.W.nsIn K dd z = some r ∧ Q (.bl r.isSome) H
def rKNotIn (K : PySem.W.Frag) (dd : Addr) : R2 := fun x y H Q => ∃ (z : Str) (r : Option Value), x = .str z ∧ y = .ref dd ∧ PySem.W.nsIn K dd z = some r ∧ Q (.bl (!r.isSome)) H
def rKItem (K : PySem.W.Frag) (dd : Addr) : R2 := fun x y H Q => ∃ (z : Str) (u0 : Value) (v0 : V), x = .ref dd ∧ y = .str z ∧ PySem.W.nsIn K dd z = some (some u0) ∧ RelV v0 u0 ∧ Q v0 H
theorem ev_kin {dd : Addr} {z : Str} {r : Option Value} (h : EvD K S te σ H (.str z)) (hn : PySem.W.nsIn K dd z = some r) : EvD K S (tOp (rKIn K dd) te (tC (.ref dd))) σ H (.bl r.isSome) := fun H1 e Q q => h H1 e _ fun v H2 e2 r2 => by
  cases r2
  exact ⟨z, r, rfl, rfl, hn, q _ _ e2 (.bl _)⟩
theorem ev_knotin {dd : Addr} {z : Str} {r : Option Value} (h : EvD K S te σ H (.str z)) (hn : PySem.W.nsIn K dd z = some r) : EvD K S (tOp (rKNotIn K dd) te (tC (.ref dd))) σ H (.bl (!r.isSome)) := fun H1 e Q q => h H1 e _ fun v H2 e2 r2 => by
  cases r2
  exact ⟨z, r, rfl, rfl, hn, q _ _ e2 (.bl _)⟩
theorem ev_kitemS {dd : Addr} {z x : Str} {t : Tok} (h : EvD K S te σ H (.str z)) (hn : PySem.W.nsIn K dd z = some (some (.str x t))) : EvD K S (tOp (rKItem K dd) (tC (.ref dd)) te) σ H (.str x) := fun H1 e Q q => h H1 e _ fun v H2 e2 r2 => by
  cases r2
  exact ⟨z, _, .str x, rfl, rfl, hn, ⟨t, rfl⟩, q _ _ e2 (.str _)⟩
theorem ev_kitemI {dd : Addr} {z : Str} {i : Int} {t : Tok} (h : EvD K S te σ H (.str z)) (hn : PySem.W.nsIn K dd z = some (some (.int i t))) : EvD K S (tOp (rKItem K dd) (tC (.ref dd)) te) σ H (.int i) := fun H1 e Q q => h H1 e _ fun v H2 e2 r2 => by
  cases r2
  exact ⟨z, _, .int i, rfl, rfl, hn, ⟨t, rfl⟩, q _ _ e2 (.int _)⟩
/-! ### {..}.get(k), keys written texts -/
inductive EvP (K : PySem.W.Frag) (S : Addr → Prop) (σ : L2.St) (H : Hp) : List (TE × TE) → List (Str × D) → Prop where
  | nil : EvP K S σ H [] []
  | cons {k : Str} {tv : TE} {d : D} {trs : List (TE × TE)} {ps : List (Str × D)} : EvD K S tv σ H d → EvP K S σ H trs ps → EvP K S σ H ((tC (.str k), tv) :: trs) ((k, d) :: ps)
theorem ep_run {trs : List (TE × TE)} {ps : List (Str × D)} (m : Mem S H) (h : EvP K S σ H trs ps) : ∀ H1, Ex H H1 → ∀ Q : List (V × V) → Hp → Prop,
    (∀ vs H2, Ex H1 H2 → RpA K S H2 vs (ps.map (·.2)) → Q ((ps.map (·.1)).zipWith (fun k v => (.str k, v)) vs) H2) → tPairs trs σ H1 Q := by
  induction h with
  | nil => exact fun H1 _ Q q => q [] H1 (Evl.Ex.refl _) .nil
  | cons hd ht ih => exact fun H1 e Q q => hd H1 e _ fun v H2 e2 r2 => ih H2 (e.trans e2) _ fun vs H3 e3 r3 => q (v :: vs) H3 (e2.trans e3) (.cons (r2.mono (.of (m.ex (e.trans e2)) e3)) r3)
end
theorem putK_new {kvs : List (Key × V)} {k : Key} {v : V} (h : ∀ p ∈ kvs, p.1 ≠ k) : putK kvs k v = kvs ++ [(k, v)] := by
  unfold putK
  rw [if_neg]
  intro z
  obtain ⟨p, hp, e⟩ := List.any_eq_true.mp z
  exact h p hp (of_decide_eq_true e)
theorem mergeK_new : ∀ (more kvs : List (Key × V)), ((kvs ++ more).map (·.1)).Nodup → mergeK kvs more = kvs ++ more
  | [], kvs, _ => by show kvs = _; rw [List.append_nil]
  | p :: r, kvs, h => by
    have e : kvs ++ p :: r = (kvs ++ [p]) ++ r := by simp
    have hp : putK kvs p.1 p.2 = kvs ++ [p] := putK_new fun q hq z => by
      rw [List.map_append, List.nodup_append] at h
      exact h.2.2 q.1 (List.mem_map_of_mem hq) p.1 (by simp) z
    show mergeK (putK kvs p.1 p.2) r = _
    rw [hp, mergeK_new r (kvs ++ [p]) (by rw [← e]; exact h), ← e]
section
variable {K : PySem.W.Frag} {S S' : Addr → Prop} {σ : L2.St} {H H' H1 : Hp} {te ta tb : TE} {d d1 d2 : D}
theorem valV_lookup : ∀ {ks : List Str} {vs : List V} {ds : List D} (w : Str), ks.length = vs.length → RpA K S H vs ds →
    (match (ks.zip ds).lookup w with | some d => ∃ v, valV (List.zipWith (fun k v => ((.inr k : Key), v)) ks vs) (.inr w) = some v ∧ Rp K S H v d | none => valV (List.zipWith (fun k v => ((.inr k : Key), v)) ks vs) (.inr w) = none)
  | [], vs, ds, w, hl, r => by
    cases vs with
    | nil => rfl
    | cons => cases hl
  | k :: ks, vs, ds, w, hl, r => by
    cases r with
    | nil => cases hl
    | @cons v d vs ds r rr =>
      have ih := valV_lookup (ks := ks) (vs := vs) (ds := ds) w (by simpa using hl) rr
      by_cases e : w = k
      · subst e
        simp only [List.zip_cons_cons, List.lookup_cons, beq_self_eq_true]
        exact ⟨v, valV_pos rfl, r⟩
      · have e' : (w == k) = false := by simpa using e
        simp only [List.zip_cons_cons, List.lookup_cons, e', List.zipWith_cons_cons]
        rw [valV_neg (fun z => e (by cases z; rfl))]
        exact ih
theorem zip_fs : ∀ ps : List (Str × D), (ps.map (·.1)).zip (ps.map (·.2)) = ps
  | [] => rfl
  | p :: ps => by rw [List.map_cons, List.map_cons, List.zip_cons_cons, zip_fs ps]
theorem ev_getdisp {trs : List (TE × TE)} {ps : List (Str × D)} {w : Str} (m : Mem S H) (hp : ∀ S' H', Mem S' H' → Up K S H S' H' → Ex H H' → EvP K S' σ H' trs ps) (hn : (ps.map (·.1)).Nodup) (h15 : ps.length ≤ 15) (h : EvD K S te σ H (.str w)) :
    EvD K S (tDGet1 (tDisp trs) te) σ H ((ps.lookup w).getD .non) := fun H1 e Q q p hnew => by
  have m1 := m.ex e
  have ex1 : Ex H1 (upd H1 p (.dK [])) := Evl.Ex.new hnew
  have hH1 : H1 p = none := hnew
  have nS : ¬ S p := m1.new hnew
  have mP : Mem (plus S p) (upd H1 p (.dK [])) := fun b s => by
    rcases s with s | s
    · obtain ⟨o, h⟩ := m1 b s
      exact ⟨o, ex1 _ _ h⟩
    · exact ⟨_, by rw [s]; exact upd_same⟩
  have upP : Up K S H (plus S p) (upd H1 p (.dK [])) := fun v d r => by
    have r2 : Rp K (plus S p) H1 v d := (r.mono (.of m e)).plus hnew
    exact r2.mono ⟨fun a o n h => ex1 _ _ h, mP⟩
  refine ep_run mP (hp _ _ mP upP (e.trans ex1)) _ (Evl.Ex.refl _) _ fun vs H2 e2 r2 => ?_
  have hlen := r2.length
  rw [List.length_map] at hlen
  have hps : H2 p = some (.dK []) := e2 _ _ upd_same
  let kvs : List (Key × V) := List.zipWith (fun k v => ((.inr k : Key), v)) (ps.map (·.1)) vs
  have ke : kvs.map (·.1) = (ps.map (·.1)).map Sum.inr := by
    show (List.zipWith _ _ _).map _ = _
    rw [List.map_zipWith]
    have : ∀ (ks : List Str) (vs : List V), ks.length = vs.length → List.zipWith (fun k v => ((.inr k : Key), v).1) ks vs = ks.map Sum.inr := by
      intro ks
      induction ks with
      | nil => intro vs _; rfl
      | cons k ks ih =>
        intro vs hl
        cases vs with
        | nil => cases hl
        | cons v vs => rw [List.zipWith_cons_cons, ih vs (by simpa using hl)]; rfl
    exact this _ _ (by rw [List.length_map, hlen])
  have hm : mergeK [] kvs = kvs := by
    have := mergeK_new kvs [] (by
      rw [List.nil_append, ke]
      have inj : ∀ (ks : List Str), ks.Nodup → (ks.map (Sum.inr : Str → Key)).Nodup := by
        intro ks
        induction ks with
        | nil => intro _; exact List.nodup_nil
        | cons k ks ih =>
          intro h
          rw [List.nodup_cons] at h
          rw [List.map_cons, List.nodup_cons]
          refine ⟨fun z => ?_, ih h.2⟩
          obtain ⟨x, hx, ex⟩ := List.mem_map.mp z
          cases ex
          exact h.1 hx
      exact inj _ hn)
    rwa [List.nil_append] at this
  refine ⟨hps, kvs, ?_, ?_, ?_⟩
  · show _ = List.map _ (List.zipWith _ _ _)
    rw [List.map_zipWith]
    rfl
  · show (List.zipWith _ _ _).length ≤ 15
    rw [List.length_zipWith, List.length_map]; omega
  · rw [hm]
    have hd3 : (upd H2 p (.dK kvs)) p = some (.dK kvs) := upd_same
    have x3 : Ex H1 (upd H2 p (.dK kvs)) := fun b o hb => by
      have ne : b ≠ p := fun z => by rw [z, hH1] at hb; cases hb
      rw [upd_ne ne]
      exact e2 _ _ (ex1 _ _ hb)
    have m2 : Mem (plus S p) H2 := mP.ex e2
    have r3 : RpA K (plus S p) (upd H2 p (.dK kvs)) vs (ps.map (·.2)) := r2.mono (ExS.put m2 (.inr rfl))
    refine ⟨p, rfl, .inl ⟨kvs, .inl hd3⟩, h _ (e.trans x3) _ fun v H4 e4 r4 => ?_⟩
    cases r4
    refine ⟨valV kvs (.inr w), DGet.k (k := Sum.inr w) (e4 _ _ hd3), ?_⟩
    have lk := valV_lookup (ks := ps.map (·.1)) (vs := vs) (ds := ps.map (·.2)) w (by rw [List.length_map, hlen]) r3
    have ez : (ps.map (·.1)).zip (ps.map (·.2)) = ps := zip_fs ps
    rw [ez] at lk
    have m3 : Mem (plus S p) (upd H2 p (.dK kvs)) := (ExS.put m2 (.inr rfl)).mem
    have fin : Rp K S H4 ((valV kvs (.inr w)).getD .non) ((ps.lookup w).getD .non) := by
      generalize hlk : ps.lookup w = r at lk
      cases r with
      | none =>
        rw [show valV kvs (.inr w) = none from lk]
        exact .non
      | some dd =>
        obtain ⟨v, hv, rv⟩ := lk
        rw [show valV kvs (.inr w) = some v from hv]
        exact (rv.mono (.of m3 e4)).less fun a s => .inl s
    exact q _ _ (x3.trans e4) fin
end
end Nv
set_option Elab.async false
set_option linter.all false
set_option maxRecDepth 100000
set_option maxHeartbeats 4000000
/-! Statements as data; promises; callees; the module's dicts. -/
namespace Nv
open PySem PySem.Spec PyProof.Rows L2 StX NvZ
/-- a block that returns the data d -/
def EvS (K : PySem.W.Frag) (S : Addr → Prop) (ts : TS) (σ : L2.St) (H : Hp) (d : D) : Prop := ∀ H1, Ex H H1 → ∀ E : Ends, (∀ v H2, Ex H1 H2 → Rp K S H2 v d → E.rt v H2) → ts E σ H1
section
variable {K : PySem.W.Frag} {S : Addr → Prop} {σ : L2.St} {H : Hp} {te : TE} {t : TT} {u r : TS} {d d1 d2 : D}
theorem es_ret (h : EvD K S te σ H d) : EvS K S (tRet te) σ H d := fun H1 e E q => h H1 e _ q
theorem es_if {b : Bool} (h : EvB t σ H b) (h1 : b = true → EvS K S u σ H d) (h2 : b = false → EvS K S r σ H d) : EvS K S (tIfS t u r) σ H d := fun H1 e E q => h H1 e _ fun H2 e2 => by
  cases b with
  | true => exact h1 rfl H2 (e.trans e2) E fun v H3 e3 r3 => q v H3 (e2.trans e3) r3
  | false => exact h2 rfl H2 (e.trans e2) E fun v H3 e3 r3 => q v H3 (e2.trans e3) r3
theorem es_ifret {b : Bool} (h : EvB t σ H b) (h1 : b = true → EvS K S u σ H d) (h2 : b = false → EvS K S r σ H d) : EvS K S (tSeq (tIfS t u tNext) r) σ H d := fun H1 e E q => h H1 e _ fun H2 e2 => by
  cases b with
  | true => exact h1 rfl H2 (e.trans e2) { E with nx := r E } fun v H3 e3 r3 => q v H3 (e2.trans e3) r3
  | false => exact h2 rfl H2 (e.trans e2) E fun v H3 e3 r3 => q v H3 (e2.trans e3) r3
theorem es_set {i : Nat} (h : EvD K S te σ H d1) (hr : ∀ v H', Ex H H' → Rp K S H' v d1 → EvS K S r (σ.set i (some v)) H' d) : EvS K S (tSeq (tAsg te (gName i)) r) σ H d := fun H1 e E q => h H1 e _ fun v H2 e2 r2 =>
  hr v H2 (e.trans e2) r2 H2 (Evl.Ex.refl _) E fun v H3 e3 r3 => q v H3 (e2.trans e3) r3
theorem es_par {i j : Nat} {ta : TA} (m : Mem S H) (h : EvA K S ta σ H [d1, d2]) (hr : ∀ v w H', Ex H H' → Rp K S H' v d1 → Rp K S H' w d2 → EvS K S r ((σ.set i (some v)).set j (some w)) H' d) : EvS K S (tSeq (tPar i j ta) r) σ H d := fun H1 e E q => h H1 e _ fun vs H2 e2 r2 => by
  cases r2 with
  | cons r2 rn =>
    cases rn with
    | cons r3 rn =>
      cases rn
      exact ⟨_, _, rfl, hr _ _ H2 (e.trans e2) r2 r3 H2 (Evl.Ex.refl _) E fun v H3 e3 r3 => q v H3 (e2.trans e3) r3⟩
theorem EvS.is (h : EvS K S u σ H d) (e : d = d1) : EvS K S u σ H d1 := e ▸ h
end
/-! ### promises -/
/-- of values that are the data ds (pre), the data f ds; no more is written -/
def Pure (K : PySem.W.Frag) (n : Nat) (pre : List D → Prop) (f : List D → D) : Sp := fun vs H Q _ => ∃ S ds, ds.length = n ∧ Mem S H ∧ RpA K S H vs ds ∧ pre ds ∧ ∀ v H', Ex H H' → Rp K S H' v (f ds) → Q v H'
/-- .. or the exception C with its dict -/
def PureX (K : PySem.W.Frag) (n : Nat) (pre : List D → Prop) (f : List D → Addr × List (Str × V) ⊕ D) : Sp := fun vs H Q E => ∃ S ds, ds.length = n ∧ Mem S H ∧ RpA K S H vs ds ∧ pre ds ∧ match f ds with
  | .inr d => ∀ v H', Ex H H' → Rp K S H' v d → Q v H'
  | .inl x => ∀ p H', Ex H H' → H p = none → H' p = some (.xd x.2) → E (.ref x.1) (some p) H'
section
variable {K : PySem.W.Frag} {S : Addr → Prop} {σ : L2.St} {H : Hp} {n : Nat} {pre : List D → Prop} {f : List D → D}
theorem Pure.len {vs : List V} {Q : VK} {E : XK} (h : Pure K n pre f vs H Q E) : vs.length = n := by
  obtain ⟨S, ds, hl, m, r, _⟩ := h
  rw [r.length]; exact hl
theorem ra_pure {ds : List D} {E : XK} (m : Mem S H) (hn : ds.length = n) (hp : pre ds) : RAD K S (fun vs H Q => Pure K n pre f (vs ++ []) H Q E) H ds (f ds) := fun H1 e vs r Q q => ⟨S, ds, hn, m.ex e, by rw [List.append_nil]; exact r, hp, q⟩
theorem ev_pure {ta : TA} {ds : List D} {E : XK} (m : Mem S H) (h : EvA K S ta σ H ds) (hn : ds.length = n) (hp : pre ds) : EvD K S (tCall (Pure K n pre f) [] E ta) σ H (f ds) := ev_call h (ra_pure m hn hp)
theorem pure_of {vs : List V} {Q : VK} {E : XK} {N : List Str} {ts : TS} (h : Pure K n pre f vs H Q E) (b : ∀ S ds, ds.length = n → Mem S H → RpA K S H vs ds → pre ds → EvS K S ts (start N vs) H (f ds)) : ts { nx := fun _ H' => Q .non H', rt := Q } (start N vs) H := by
  obtain ⟨S, ds, hl, m, r, hp, q⟩ := h
  exact b S ds hl m r hp H (Evl.Ex.refl _) _ q
end
/-! ### callees -/
structure Cal (P : Program) (w : World) (K : PySem.W.Frag) (mg : Str → Option Value) (base : Heap) (CX : CXT) (k : Nat) (x : Str) (ps : List Str) (sp : Sp) : Prop where
  ex : ∃ f fd, mg x = some (.ref f) ∧ PySem.W.keepIn K (.ref f) = true ∧ Binds K fd ps [] ∧ FnOk P w K mg base CX k f fd ps sp
theorem Cal.mk' {P : Program} {w : World} {K : PySem.W.Frag} {mg : Str → Option Value} {base : Heap} {CX : CXT} {k : Nat} {x : Str} {ps : List Str} {sp : Sp} {f : Addr} {fd : FuncData} (h1 : mg x = some (.ref f)) (h2 : PySem.W.keepIn K (.ref f) = true) (h3 : Binds K fd ps []) (h4 : FnOk P w K mg base CX k f fd ps sp) : Cal P w K mg base CX k x ps sp := ⟨f, fd, h1, h2, h3, h4⟩
structure Met (P : Program) (w : World) (K : PySem.W.Frag) (mg : Str → Option Value) (base : Heap) (CX : CXT) (k : Nat) (C : Addr) (x : Str) (ps : List Str) (sp : Sp) : Prop where
  ex : ∃ f fd, Meth K C x f ∧ Binds K fd ps [] ∧ FnOk P w K mg base CX k f fd ps sp
section
variable {X : Cx} {CX : CXT} {k : Nat} {C : Addr} {x m : Str} {ps : List Str} {sp : Sp} {E : XK} {p pos apos : Pos} {e o : Expr} {es : List Expr} {ta : TE} {t : TA}
theorem pe_cal (c : Cal X.prog X.w X.K X.mg X.base CX k x ps sp) (hr : Room k X.A) (hx : Passes CX X E) (ha : PA X (e :: es) t) (hg : Gl X x := by rfl)
    (hdb : (x == ("__debug__" : Str)) = false := by decide) (he : starEach (e :: es) X.env = (false, eval e X.env) :: starEach es X.env := by rfl) (hpl : (backTo pos (starEach es X.env)).any (·.1) = false := by rfl) :
    PE X (.Call (.Name x p) (e :: es) [] pos) (tCall sp [] E t) := by
  obtain ⟨f, fd, h1, h2, h3, h4⟩ := c.ex
  exact pe_call h4 hr hg h1 h2 h3 .nil hx ha hdb he hpl
theorem pe_met0 {pl : Sem Bool} (c : Met X.prog X.w X.K X.mg X.base CX k C m ps sp) (hC : Cls X.K C) (hr : Room k X.A) (hx : Passes CX X E) (he : PE X o ta)
    (ht : eval (.Call (.Attribute o m apos) [] [] pos) X.env = (do
      let ov ← eval o X.env
      standAt apos.atName
      let (f, first) ← holding [ov] (getMethod ov m pl)
      callWith pos f first (backTo pos (starEach [] X.env)) (backToKw pos (keywordEach [] X.env))) := by rfl) :
    PE X (.Call (.Attribute o m apos) [] [] pos) (tMeth C m sp [] E ta tNil) := by
  obtain ⟨f, fd, h1, h2, h3⟩ := c.ex
  exact pe_meth0 he hC h1 h3 hr h2 .nil hx ht
theorem pe_met {pl : Sem Bool} (c : Met X.prog X.w X.K X.mg X.base CX k C m ps sp) (hC : Cls X.K C) (hr : Room k X.A) (hx : Passes CX X E) (he : PE X o ta) (ha : PA X (e :: es) t)
    (hst : starEach (e :: es) X.env = (false, eval e X.env) :: starEach es X.env := by rfl) (hpl : (backTo pos (starEach es X.env)).any (·.1) = false := by rfl)
    (ht : eval (.Call (.Attribute o m apos) (e :: es) [] pos) X.env = (do
      let ov ← eval o X.env
      standAt apos.atName
      let (f, first) ← holding [ov] (getMethod ov m pl)
      callWith pos f first (backTo pos (starEach (e :: es) X.env)) (backToKw pos (keywordEach [] X.env))) := by rfl) :
    PE X (.Call (.Attribute o m apos) (e :: es) [] pos) (tMeth C m sp [] E ta t) := by
  obtain ⟨f, fd, h1, h2, h3⟩ := c.ex
  exact pe_meth he hC h1 h3 hr h2 .nil hx ha hst hpl ht
/-- what the callee lets out, the caller lets out -/
theorem passE {W : WX} (tk : Takes X W) {E : XK} (h : ∀ cls d σ H, E cls d H → W cls d σ H) : Passes (L2.CX X.prog X.w) X E := fun pins σ H s e s' I c => passes_call tk h pins σ H s e s' I c
end
/-! ### the module's dicts -/
theorem ix_kd {X : Cx} {dd : Addr} {es : Array DictEntry} {n : Nat} (D : KDict X.K X.w dd es n) : OpR X getItem (rKItem X.K dd) := op_item_kd D
theorem pe_kitem {X : Cx} {dd : Addr} {es : Array DictEntry} {n : Nat} {o i : Expr} {ty : TE} {pos : Pos} (D : KDict X.K X.w dd es n) (ho : PE X o (tC (.ref dd))) (hi : PE X i ty) (hs : NoSl i) : PE X (.Subscript o i pos) (tOp (rKItem X.K dd) (tC (.ref dd)) ty) := by
  refine ⟨fun pins s σ H Q I h => ?_⟩
  refine subD_of PySem.F.slot_dict_getitem.lookup hs (thn (ho.run pins s σ H _ I h) fun u s1 ⟨x, H1, I1, rx, q1⟩ => thn (hi.run pins s1 σ H1 _ I1 q1) fun iv s2 ⟨y, H2, I2, ry, q2⟩ => ?_)
  obtain ⟨z, u0, v0, ex, ey, hn, r, q⟩ := q2
  subst ex ey
  obtain rfl : u = Value.ref dd := rx
  exact ⟨kd_type D I2, op_item_kd D pins s2 σ H2 (.ref dd) (.str z) _ _ Q I2 (show RelV (.ref dd) (.ref dd) from rfl) ry ⟨z, u0, v0, rfl, rfl, hn, r, q⟩⟩
/-- list(d): its keys -/
def rKList (dd : Addr) (ks : List Str) : List V → Hp → VK → Prop := fun xs H Q => xs = [.ref dd] ∧ ∀ p, H p = none → Q (.ref p) (upd H p (.lst (ks.map V.str)))
def keyStr : Value → Option Str
  | .str x _ => some x
  | _ => none
theorem pairs_kd {P : Program} {w : World} : ∀ {l : List DictEntry} {ks : List Str}, l.map (fun e => keyStr e.key) = ks.map some → Pairs (strKind P w) l (ks.zip (l.map (·.val)))
  | [], [], _ => .nil
  | [], _ :: _, h => by simp at h
  | _ :: _, [], h => by simp at h
  | e :: l, k :: ks, h => by
    simp only [List.map_cons, List.cons.injEq] at h
    refine .cons ?_ rfl (pairs_kd h.2)
    have h1 := h.1
    cases hk : e.key with
    | str x t =>
      rw [hk] at h1
      have e1 : x = k := by simpa [keyStr] using h1
      rw [e1]; exact strKind_is P w k t
    | _ => rw [hk] at h1; cases h1
theorem call_list_kd {X : Cx} {dd : Addr} {es : Array DictEntry} {n : Nat} {ks : List Str} (hc : X.calm = true) (D : KDict X.K X.w dd es n) (hk : es.toList.map (fun e => keyStr e.key) = ks.map some) (hn : ks.Nodup) (hz : ks.length ≤ 1000) : CallR X (.type "list") (rKList dd ks) := by
  intro pins s σ H xs us Q I r h
  obtain ⟨rfl, q⟩ := h
  obtain ⟨u, rfl, rx⟩ := vals1 r
  cases rx
  have hl : es.toList.length = ks.length := by
    have := congrArg List.length hk
    simpa using this
  have kf : (ks.zip (es.toList.map (·.val))).map (·.1) = ks := List.map_fst_zip (by rw [List.length_map]; omega)
  have hat : s.heap.DictAt (strKind X.prog X.w) dd (ks.zip (es.toList.map (·.val))) n := ⟨_, es, I.kIn _ _ D.at_, ⟨rfl, rfl, rfl⟩, rfl, fun e he => by
      obtain ⟨x, t, e1, e2⟩ := D.lit.all e (Array.mem_toList_iff.mpr he)
      exact ⟨x, by rw [e1]; exact strKind_is X.prog X.w x t, e2⟩, pairs_kd hk, by rw [kf]; exact hn⟩
  have hzl : (ks.zip (es.toList.map (·.val))).length = ks.length := by
    rw [List.length_zip, List.length_map, hl, Nat.min_self]
  refine PySem.W.kdl_call (PySem.W.kdl_dict (knd := strKind X.prog X.w) (kvs := ks.zip (es.toList.map (·.val))) (ep := n) D.low) (I.ok.hd hc) hat (by rw [hzl, sizeLine_eq]; omega) fun h' tk acc' c' hkeep hS hacc => ?_
  have el : acc'.toList.length = ks.length := by rw [Array.length_toList, hacc.1, hzl]
  refine ⟨.ref s.heap.objs.size, upd H s.heap.objs.size (.lst (ks.map V.str)), I.laid hkeep (Nat.le_refl _) (show ObjOk X.prog X.w _ _ _ (.lst (ks.map V.str)) from ⟨?_, acc'.toList, c', ?_, ?_⟩), rfl, q _ (I.hok.fresh (Nat.le_refl _))⟩
  · rw [List.length_map, sizeLine_eq]; omega
  · refine vals_of_at (by rw [List.length_map, el]) fun j x w h1 h2 => ?_
    obtain ⟨k, y, hky, hi⟩ := hacc.2 j w (by rw [← Array.getElem?_toList]; exact h2)
    have e1 : ks[j]? = some k := by
      have e3 := congrArg (fun o : Option (Str × Value) => o.map (·.1)) hky
      simp only [Option.map_some] at e3
      rw [← List.getElem?_map, kf] at e3
      exact e3
    rw [List.getElem?_map, e1] at h1
    cases h1
    obtain ⟨t, rfl⟩ := Value.isStrOf_shape hi
    exact ⟨t, rfl⟩
  · rw [Array.toArray_toList]; exact hS
theorem ra_klist {K : PySem.W.Frag} {S : Addr → Prop} {H : Hp} {dd : Addr} {ks : List Str} {te : TE} {σ : L2.St} (m : Mem S H) : EvD K S (tCB (rKList dd ks) (tCons (tC (.ref dd)) tNil)) σ H (.lst (ks.map D.str)) := fun H1 e Q q => ⟨rfl, fun p hp => q _ _ (Evl.Ex.new hp) (.newL (m.ex e) (rpA_strs _) hp)⟩
end Nv
set_option Elab.async false
set_option linter.all false
set_option maxRecDepth 100000
set_option maxHeartbeats 4000000
/-! Terms in short. -/
namespace Nv
open PySem PySem.Spec PyProof.Rows L2 StX NvZ
theorem bt_all : bootBuiltins "all" = some (.builtin "all") := by decide +kernel
theorem bt_len : bootBuiltins "len" = some (.builtin "len") := by decide +kernel
theorem bt_isi : bootBuiltins "isinstance" = some (.builtin "isinstance") := by decide +kernel
theorem bt_abs : bootBuiltins "abs" = some (.builtin "abs") := by decide +kernel
theorem bt_int : bootBuiltins "int" = some (.type "int") := by decide +kernel
theorem bt_str : bootBuiltins "str" = some (.type "str") := by decide +kernel
theorem bt_bool : bootBuiltins "bool" = some (.type "bool") := by decide +kernel
theorem bt_list : bootBuiltins "list" = some (.type "list") := by decide +kernel
theorem bt_tuple : bootBuiltins "tuple" = some (.type "tuple") := by decide +kernel
structure Blt (mg : Str → Option Value) : Prop where
  all : mg "all" = none
  len : mg "len" = none
  isi : mg "isinstance" = none
  abs : mg "abs" = none
  int : mg "int" = none
  str : mg "str" = none
  bool : mg "bool" = none
  list : mg "list" = none
  tuple : mg "tuple" = none
  range : mg "range" = none
  enumerate : mg "enumerate" = none
  zip : mg "zip" = none
def GloS (mg : Str → Option Value) (x z : Str) : Prop := ∃ t, mg x = some (.str z t)
def GloI (mg : Str → Option Value) (x : Str) (i : Int) : Prop := ∃ t, mg x = some (.int i t)
section
variable {X : Cx} {a b e : Expr} {ta tb te : TE} {p pos : Pos}
theorem pe_globS {x z : Str} (h : GloS X.mg x z) (hg : Gl X x := by rfl) (hd : (x == ("__debug__" : Str)) = false := by decide) : PE X (.Name x p) (tC (.str z)) := by
  obtain ⟨t, h⟩ := h
  exact pe_glob hg h ⟨t, rfl⟩ hd
theorem pe_globI {x : Str} {i : Int} (h : GloI X.mg x i) (hg : Gl X x := by rfl) (hd : (x == ("__debug__" : Str)) = false := by decide) : PE X (.Name x p) (tC (.int i)) := by
  obtain ⟨t, h⟩ := h
  exact pe_glob hg h ⟨t, rfl⟩ hd
theorem pe_globR {x : Str} {r : Addr} (h : X.mg x = some (.ref r)) (hg : Gl X x := by rfl) (hd : (x == ("__debug__" : Str)) = false := by decide) : PE X (.Name x p) (tC (.ref r)) := pe_glob hg h rfl hd
theorem pe_len (B : Blt X.mg) (ha : PE X a ta) (hg : Gl X "len" := by rfl) (he : starEach [a] X.env = (false, eval a X.env) :: starEach [] X.env := by rfl) : PE X (.Call (.Name "len" p) [a] [] pos) (tCB (rLenV X.K) (tCons ta tNil)) :=
  pe_callB call_len hg B.len bt_len (pa_cons ha pa_nil he) (by decide) (by decide) he
theorem pe_all (B : Blt X.mg) (hc : X.calm = true) (ha : PE X a ta) (hg : Gl X "all" := by rfl) (he : starEach [a] X.env = (false, eval a X.env) :: starEach [] X.env := by rfl) : PE X (.Call (.Name "all" p) [a] [] pos) (tCB (rAll X.K) (tCons ta tNil)) :=
  pe_callB (cr_all hc) hg B.all bt_all (pa_cons ha pa_nil he) (by decide) (by decide) he
theorem pe_strI (B : Blt X.mg) (ha : PE X a ta) (hg : Gl X "str" := by rfl) (he : starEach [a] X.env = (false, eval a X.env) :: starEach [] X.env := by rfl) : PE X (.Call (.Name "str" p) [a] [] pos) (tCB rStrI (tCons ta tNil)) :=
  pe_callTy call_str_int hg B.str bt_str (pa_cons ha pa_nil he) (by decide) (by decide) he
theorem pe_intI (B : Blt X.mg) (ha : PE X a ta) (hg : Gl X "int" := by rfl) (he : starEach [a] X.env = (false, eval a X.env) :: starEach [] X.env := by rfl) : PE X (.Call (.Name "int" p) [a] [] pos) (tCB rIntI (tCons ta tNil)) :=
  pe_callTy call_int1 hg B.int bt_int (pa_cons ha pa_nil he) (by decide) (by decide) he
theorem pe_intS (B : Blt X.mg) (ha : PE X a ta) (hg : Gl X "int" := by rfl) (he : starEach [a] X.env = (false, eval a X.env) :: starEach [] X.env := by rfl) : PE X (.Call (.Name "int" p) [a] [] pos) (tCB rIntS (tCons ta tNil)) :=
  pe_callTy call_int_str hg B.int bt_int (pa_cons ha pa_nil he) (by decide) (by decide) he
def rAbs : List V → Hp → VK → Prop := fun xs H Q => ∃ i, xs = [.int i] ∧ Q (.int (if i < 0 then -i else i)) H
theorem pe_abs (B : Blt X.mg) (ha : PE X a ta) (hg : Gl X "abs" := by rfl) (he : starEach [a] X.env = (false, eval a X.env) :: starEach [] X.env := by rfl) : PE X (.Call (.Name "abs" p) [a] [] pos) (tCB rAbs (tCons ta tNil)) :=
  pe_callB call_abs hg B.abs bt_abs (pa_cons ha pa_nil he) (by decide) (by decide) he
theorem pe_tupOf (B : Blt X.mg) (ha : PE X a ta) (hg : Gl X "tuple" := by rfl) (he : starEach [a] X.env = (false, eval a X.env) :: starEach [] X.env := by rfl) : PE X (.Call (.Name "tuple" p) [a] [] pos) (tCB (rTupOf X.K) (tCons ta tNil)) :=
  pe_callTy call_tuple_of hg B.tuple bt_tuple (pa_cons ha pa_nil he) (by decide) (by decide) he
def rListOf (K : PySem.W.Frag) : List V → Hp → VK → Prop := fun xs H Q => ∃ p ys, xs = [.ref p] ∧ (SqL K H p ys ∨ SqT K H p ys) ∧ ∀ l, H l = none → Q (.ref l) (upd H l (.lst ys))
theorem pe_listOf (B : Blt X.mg) (ha : PE X a ta) (hg : Gl X "list" := by rfl) (he : starEach [a] X.env = (false, eval a X.env) :: starEach [] X.env := by rfl) : PE X (.Call (.Name "list" p) [a] [] pos) (tCB (rListOf X.K) (tCons ta tNil)) :=
  pe_callTy call_list_of hg B.list bt_list (pa_cons ha pa_nil he) (by decide) (by decide) he
theorem pe_klist {dd : Addr} {es : Array DictEntry} {n : Nat} {ks : List Str} (B : Blt X.mg) (hc : X.calm = true) (D : KDict X.K X.w dd es n) (hk : es.toList.map (fun e => keyStr e.key) = ks.map some) (hn : ks.Nodup) (hz : ks.length ≤ 1000) (ha : PE X a ta) (hg : Gl X "list" := by rfl) (he : starEach [a] X.env = (false, eval a X.env) :: starEach [] X.env := by rfl) :
    PE X (.Call (.Name "list" p) [a] [] pos) (tCB (rKList dd ks) (tCons ta tNil)) :=
  pe_callTy (call_list_kd hc D hk hn hz) hg B.list bt_list (pa_cons ha pa_nil he) (by decide) (by decide) he
/-- isinstance(x, T) -/
theorem pe_isi {n : Str} {nn : String} (B : Blt X.mg) (ha : PE X a ta) (hm : X.mg n = none) (hv : bootBuiltins n = some (.type nn)) {p2 : Pos} (hg2 : Gl X n := by rfl) (hg : Gl X "isinstance" := by rfl) (he : starEach [a, .Name n p2] X.env = (false, eval a X.env) :: starEach [.Name n p2] X.env := by rfl)
    (he2 : starEach [.Name n p2] X.env = (false, eval (.Name n p2) X.env) :: starEach [] X.env := by rfl) (hn : n ≠ "__name__" := by decide) (hd : (n == ("__debug__" : Str)) = false := by decide) (hpl : (backTo pos (starEach [.Name n p2] X.env)).any (·.1) = false := by rfl) :
    PE X (.Call (.Name "isinstance" p) [a, .Name n p2] [] pos) (tCB (rIsi X.K) (tCons ta (tCons (tC (.ty nn)) tNil))) :=
  pe_callB call_isi hg B.isi bt_isi (pa_cons ha (pa_cons (pe_bltn hg2 hm hv rfl hn hd) pa_nil he2) he) (by decide) (by decide) he hpl
theorem pe_isiC {n : Str} {C : Addr} (B : Blt X.mg) (ha : PE X a ta) (hm : X.mg n = some (.ref C)) {p2 : Pos} (hg2 : Gl X n := by rfl) (hg : Gl X "isinstance" := by rfl) (he : starEach [a, .Name n p2] X.env = (false, eval a X.env) :: starEach [.Name n p2] X.env := by rfl)
    (he2 : starEach [.Name n p2] X.env = (false, eval (.Name n p2) X.env) :: starEach [] X.env := by rfl) (hd : (n == ("__debug__" : Str)) = false := by decide) (hpl : (backTo pos (starEach [.Name n p2] X.env)).any (·.1) = false := by rfl) :
    PE X (.Call (.Name "isinstance" p) [a, .Name n p2] [] pos) (tCB (rIsi X.K) (tCons ta (tCons (tC (.ref C)) tNil))) :=
  pe_callB call_isi hg B.isi bt_isi (pa_cons ha (pa_cons (pe_glob hg2 hm rfl hd) pa_nil he2) he) (by decide) (by decide) he hpl
/-- isinstance(x, (list, tuple)) -/
theorem pe_isiLT {k2 : Nat} {p2 p3 p4 : Pos} (B : Blt X.mg) (ha : PE X a ta) (hgl : Gl X "list" := by rfl) (hgt : Gl X "tuple" := by rfl) (hg : Gl X "isinstance" := by rfl)
    (he : starEach [a, .Tuple [.Name "list" p2, .Name "tuple" p3] k2 p4] X.env = (false, eval a X.env) :: starEach [.Tuple [.Name "list" p2, .Name "tuple" p3] k2 p4] X.env := by rfl) 
    (he2 : starEach [.Tuple [.Name "list" p2, .Name "tuple" p3] k2 p4] X.env = (false, eval (.Tuple [.Name "list" p2, .Name "tuple" p3] k2 p4) X.env) :: starEach [] X.env := by rfl)
    (he3 : starEach [.Name "list" p2, .Name "tuple" p3] X.env = (false, eval (.Name "list" p2) X.env) :: starEach [.Name "tuple" p3] X.env := by rfl) (he4 : starEach [.Name "tuple" p3] X.env = (false, eval (.Name "tuple" p3) X.env) :: starEach [] X.env := by rfl)
    (hpl : (backTo pos (starEach [.Tuple [.Name "list" p2, .Name "tuple" p3] k2 p4] X.env)).any (·.1) = false := by rfl) :
    PE X (.Call (.Name "isinstance" p) [a, .Tuple [.Name "list" p2, .Name "tuple" p3] k2 p4] [] pos) (tCB (rIsiT X.K) (tCons ta (tCons (tTup (tCons (tC (.ty "list")) (tCons (tC (.ty "tuple")) tNil))) tNil))) :=
  pe_callB call_isiT hg B.isi bt_isi (pa_cons ha (pa_cons (pe_tup (pa_cons (pe_bltn hgl B.list bt_list rfl (by decide) (by decide)) (pa_cons (pe_bltn hgt B.tuple bt_tuple rfl (by decide) (by decide)) pa_nil he4) he3)) pa_nil he2) he) (by decide) (by decide) he hpl
/-- d.get(k) on one line -/
theorem m1_of {o e : Expr} {m : Str} {apos cpos : Pos} (h1 : attributeBase o m X.env (eval o X.env) = eval o X.env := by rfl) (h2 : ((backTo cpos (starEach [e] X.env)).all (fun x => !x.1) && (backToKw cpos (keywordEach [] X.env)).all (fun x => x.1.isSome)
    && decide (([e] : List Expr).length + ([] : List Keyword).length + (if ([] : List Keyword).isEmpty then 0 else 1) < 30)) = true := by rfl)
    (h3 : (apos.endLine == cpos.line) = true := by rfl) (h4 : backTo cpos (starEach [e] X.env) = [(false, eval e X.env)] := by rfl) : M1 X o m apos e cpos := ⟨h1, h2, h3, h4⟩
end
/-! ### readings by their names -/
abbrev rAddI : R2 := rI0 fun i j => .int (i + j)
abbrev rSubI : R2 := rI0 fun i j => .int (i - j)
abbrev rMulI : R2 := rI CMul fun i j => .int (i * j)
abbrev rDivI : R2 := rI CDivN fun i j => .int (i.fdiv j)
abbrev rModI : R2 := rI (fun _ j => j ≠ 0) fun i j => .int (i.fmod j)
abbrev rPowI : R2 := rI CPow fun i j => .int (i ^ j.toNat)
abbrev rLtI : R2 := rI0 fun i j => .bl (decide (i < j))
abbrev rLeI : R2 := rI0 fun i j => .bl (decide (i ≤ j))
abbrev rGtI : R2 := rI0 fun i j => .bl (decide (j < i))
abbrev rGeI : R2 := rI0 fun i j => .bl (decide (j ≤ i))
abbrev rIsN : R2 := fun x y H Q => y = .non ∧ Q (.bl (decide (x = .non))) H
abbrev rNotN : R2 := fun x y H Q => y = .non ∧ Q (.bl (!decide (x = .non))) H
abbrev rNeg : V → Hp → VK → Prop := fun x H Q => ∃ i, x = .int i ∧ Q (.int (-i)) H
/-- a sign in a text -/
abbrev rInSign : R2 := fun x y H Q => ∃ (c : Nat) (z : Str), x = .str ⟨#[c]⟩ ∧ y = .str z ∧ Q (.bl (decide (c ∈ z.cps.toList))) H
/-- nothing is asked -/
abbrev tYes' : TT := tYes
end Nv
set_option Elab.async false
set_option linter.all false
set_option maxRecDepth 100000
set_option maxHeartbeats 4000000
/-! The facts of the text, by names. -/
namespace Nv
open PySem PySem.Spec PyProof.Rows L2 StX NvZ
/-- addresses of the text's things -/
structure Ads where
  dF : Addr
  eF : Array DictEntry
  nF : Nat
  dM : Addr
  eM : Array DictEntry
  nM : Nat
  cScan : Addr
  cBadText : Addr
  iBadText : Addr
  cBadProgram : Addr
  iBadProgram : Addr
def ksFORMS : List Str := ["new", "read", "write", "copy", "drop", "tick"]
def ksMOST : List Str := ["r", "k", "f", "v"]
structure Tx (A : Ads) (P : Program) (w : World) (K : PySem.W.Frag) (mg : Str → Option Value) : Prop where
  gFORMS : mg "FORMS" = some (.ref A.dF)
  kFORMS : KDict K w A.dF A.eF A.nF
  ksFORMS : A.eF.toList.map (fun e => keyStr e.key) = ksFORMS.map some
  knFORMS : Nv.ksFORMS.Nodup
  kzFORMS : Nv.ksFORMS.length ≤ 1000
  gMOST : mg "MOST" = some (.ref A.dM)
  kMOST : KDict K w A.dM A.eM A.nM
  gNONE : GloS mg "NONE" "-"
  gFIGURES : GloS mg "FIGURES" "0123456789"
  gScan : mg "Scan" = some (.ref A.cScan)
  clScan : Cls K A.cScan
  xBadText : NvX.Txt P K mg "BadText" A.cBadText A.iBadText ["line", "word"]
  xBadProgram : NvX.Txt P K mg "BadProgram" A.cBadProgram A.iBadProgram ["at"]
/-- C(..): its __init__ -/
structure Ini (P : Program) (w : World) (K : PySem.W.Frag) (mg : Str → Option Value) (base : Heap) (CX : CXT) (k : Nat) (C : Addr) (ps : List Str) (sp : Sp) : Prop where
  ex : ∃ f fd, Mk K C f ∧ Binds K fd ps [] ∧ ∃ j, k = j + 1 ∧ FnOk P w K mg base CX j f fd ps sp
theorem pe_ini {X : Cx} {CX : CXT} {k : Nat} {C : Addr} {x : Str} {ps : List Str} {sp : Sp} {E : XK} {p pos : Pos} {e : Expr} {es : List Expr} {t : TA} (c : Ini X.prog X.w X.K X.mg X.base CX k C ps sp) (hr : Room k X.A) (hx : Passes CX X E) (hm : X.mg x = some (.ref C)) (ha : PA X (e :: es) t) (hg : Gl X x := by rfl)
    (hdb : (x == ("__debug__" : Str)) = false := by decide) (he : starEach (e :: es) X.env = (false, eval e X.env) :: starEach es X.env := by rfl) (hpl : (backTo pos (starEach es X.env)).any (·.1) = false := by rfl) :
    PE X (.Call (.Name x p) (e :: es) [] pos) (tMake C sp [] E t) := by
  obtain ⟨f, fd, h1, h2, j, rfl, h3⟩ := c.ex
  exact pe_make h1 h3 hr hg hm h2 .nil hx ha hdb he hpl
abbrev FnP (K : PySem.W.Frag) (x q : Str) (st : Stmt) (f : Addr) (fd : FuncData) : Prop := FunD K x q (defArgs st) (defBody st) (defScope st) [] [] f fd
end Nv
set_option Elab.async false
set_option linter.all false
set_option maxRecDepth 100000
set_option maxHeartbeats 4000000
namespace Nv
open PySem PySem.Spec PyProof.Rows L2 StX NvZ
def t_is_integer (K : PySem.W.Frag) (A : Ads) (E : XK) : TS := (tRet (tAndV (tCB (rIsi K) (tCons (tVar 0) (tCons (tC (.ty "int")) tNil))) (tNotV (tCB (rIsi K) (tCons (tVar 0) (tCons (tC (.ty "bool")) tNil))))))
def t_is_within (K : PySem.W.Frag) (A : Ads) (E : XK) (sp_is_integer : Sp) : TS := (tRet (tAndV (tCall sp_is_integer [] E0 (tCons (tVar 0) tNil)) (tChain rLeI rLeI (tVar 1) (tVar 0) (tVar 2))))
def t_is_listed (K : PySem.W.Frag) (A : Ads) (E : XK) : TS := (tRet (tCB (rIsiT K) (tCons (tVar 0) (tCons (tTup (tCons (tC (.ty "list")) (tCons (tC (.ty "tuple")) tNil))) tNil))))
def t_is_plain_tuple (K : PySem.W.Frag) (A : Ads) (E : XK) (sp_is_listed : Sp) : TS := (tRet (tAndV (tCall sp_is_listed [] E0 (tCons (tVar 0) tNil)) (tOp (rEqD K) (tCB (rLenV K) (tCons (tVar 0) tNil)) (tVar 1))))
def t_fixed (K : PySem.W.Frag) (A : Ads) (E : XK) (sp_fixed : Sp) : TS := (tSeq (tIfS (tB (tCB (rIsiT K) (tCons (tVar 0) (tCons (tTup (tCons (tC (.ty "list")) (tCons (tC (.ty "tuple")) tNil))) tNil)))) (tRet (tCB (rTupOf K) (tCons (tLc (iSeq K (tVar 0)) (gName 1) tYes (tCall sp_fixed [] E0 (tCons (tVar 1) tNil)) [1]) tNil))) tNext)
  (tRet (tVar 0)))
def t_is_figure (K : PySem.W.Frag) (A : Ads) (E : XK) : TS := (tSeq (tIfS (tOr (tTest (tOp rIsN (tVar 0) (tC .non))) (tOr (tNot (tTest (tChain rLeI rLeI (tC (.int 1)) (tCB (rLenV K) (tCons (tVar 0) tNil)) (tC (.int 9))))) (tNot (tB (tCB (rAll K) (tCons (tLc (iSeq K (tVar 0)) (gName 3) tYes (tOp rInSign (tVar 3) (tC (.str "0123456789"))) [3]) tNil)))))) (tRet (tC (.bl false))) tNext)
  (tRet (tAndV (tOrV (tOp (rEqD K) (tVar 0) (tC (.str "0"))) (tOp (rNeD K) (tOp (rIx K) (tVar 0) (tC (.int 0))) (tC (.str "0")))) (tChain rLeI rLeI (tVar 1) (tCB rIntS (tCons (tVar 0) tNil)) (tVar 2)))))
def t_scan_of (K : PySem.W.Frag) (A : Ads) (E : XK) (sp_init : Sp) : TS := (tSeq (tIfS (tNot (tB (tCB (rIsi K) (tCons (tVar 0) (tCons (tC (.ty "str")) tNil))))) (tRaiseX A.cBadText ["line", "word"] (fun c d _ H => E c d H) (tCons (tC (.int 0)) (tCons (tC (.int 0)) tNil))) tNext)
  (tRet (tMake A.cScan sp_init [] E0 (tCons (tLc (iSeq K (tM1 rSplit (tVar 0) (tC (.str "\n")))) (gName 1) tYes (tM1 rSplit (tVar 1) (tC (.str " "))) [1]) tNil))))
def t_Scan___init__ (K : PySem.W.Frag) (A : Ads) (E : XK) : TS := (tSeq (sFld K (tVar 0) (tVar 1) "lines")
  (tSeq (sFld K (tVar 0) (tC (.int 0)) "line")
  (sFld K (tVar 0) (tC (.int 0)) "at")))
def t_Scan_is_over (K : PySem.W.Frag) (A : Ads) (E : XK) : TS := (tRet (tOp (rEqD K) (tFld K (tVar 0) "line") (tCB (rLenV K) (tCons (tFld K (tVar 0) "lines") tNil))))
def t_Scan_ahead (K : PySem.W.Frag) (A : Ads) (E : XK) (sp_Scan_is_over : Sp) : TS := (tSeq (tIfS (tOr (tB (tMeth A.cScan "is_over" sp_Scan_is_over [] E0 (tVar 0) tNil)) (tTest (tOp (rEqD K) (tFld K (tVar 0) "at") (tCB (rLenV K) (tCons (tOp (rIx K) (tFld K (tVar 0) "lines") (tFld K (tVar 0) "line")) tNil))))) (tRet (tC .non)) tNext)
  (tRet (tOp (rIx K) (tOp (rIx K) (tFld K (tVar 0) "lines") (tFld K (tVar 0) "line")) (tFld K (tVar 0) "at"))))
def t_Scan_stop (K : PySem.W.Frag) (A : Ads) (E : XK) : TS := (tRaiseX A.cBadText ["line", "word"] (fun c d _ H => E c d H) (tCons (tFld K (tVar 0) "line") (tCons (tFld K (tVar 0) "at") tNil)))
def t_Scan_take_of (K : PySem.W.Frag) (A : Ads) (E : XK) (sp_Scan_ahead : Sp) (sp_Scan_stop : Sp) : TS := (tSeq (tAsg (tMeth A.cScan "ahead" sp_Scan_ahead [] E0 (tVar 0) tNil) (gName 2))
  (tSeq (tIfS (tOr (tTest (tOp rIsN (tVar 2) (tC .non))) (tTest (tOp (rIn K true) (tVar 2) (tVar 1)))) (tDrop (tMeth A.cScan "stop" sp_Scan_stop [] E (tVar 0) tNil)) tNext)
  (tSeq (sFldAug K (tVar 0) (tC (.int 1)) rAdd "at")
  (tRet (tVar 2)))))
def t_Scan_take_number (K : PySem.W.Frag) (A : Ads) (E : XK) (sp_Scan_ahead : Sp) (sp_is_figure : Sp) (sp_Scan_stop : Sp) : TS := (tSeq (tAsg (tMeth A.cScan "ahead" sp_Scan_ahead [] E0 (tVar 0) tNil) (gName 3))
  (tSeq (tIfS (tNot (tB (tCall sp_is_figure [] E0 (tCons (tVar 3) (tCons (tVar 1) (tCons (tVar 2) tNil)))))) (tDrop (tMeth A.cScan "stop" sp_Scan_stop [] E (tVar 0) tNil)) tNext)
  (tSeq (sFldAug K (tVar 0) (tC (.int 1)) rAdd "at")
  (tRet (tCB rIntS (tCons (tVar 3) tNil))))))
def t_Scan_end_line (K : PySem.W.Frag) (A : Ads) (E : XK) (sp_Scan_ahead : Sp) (sp_Scan_is_over : Sp) (sp_Scan_stop : Sp) : TS := (tSeq (tIfS (tOr (tTest (tOp rNotN (tMeth A.cScan "ahead" sp_Scan_ahead [] E0 (tVar 0) tNil) (tC .non))) (tB (tMeth A.cScan "is_over" sp_Scan_is_over [] E0 (tVar 0) tNil))) (tDrop (tMeth A.cScan "stop" sp_Scan_stop [] E (tVar 0) tNil)) tNext)
  (tSeq (sFldAug K (tVar 0) (tC (.int 1)) rAdd "line")
  (sFld K (tVar 0) (tC (.int 0)) "at")))
end Nv
set_option Elab.async false
set_option linter.all false
set_option maxRecDepth 100000
set_option maxHeartbeats 4000000
namespace Nv
open PySem PySem.Spec PyProof.Rows L2 StX NvZ
def t_is_step (K : PySem.W.Frag) (A : Ads) (E : XK) (sp_is_listed : Sp) (sp_is_plain_tuple : Sp) (sp_is_within : Sp) : TS := (tSeq (tIfS (tOr (tNot (tB (tCall sp_is_listed [] E0 (tCons (tVar 0) tNil)))) (tOr (tTest (tOp (rEqD K) (tCB (rLenV K) (tCons (tVar 0) tNil)) (tC (.int 0)))) (tOr (tNot (tB (tCB (rIsi K) (tCons (tOp (rIx K) (tVar 0) (tC (.int 0))) (tCons (tC (.ty "str")) tNil))))) (tTest (tOp (rKNotIn K A.dF) (tOp (rIx K) (tVar 0) (tC (.int 0))) (tC (.ref A.dF))))))) (tRet (tC (.bl false))) tNext)
  (tSeq (tAsg (tOp (rKItem K A.dF) (tC (.ref A.dF)) (tOp (rIx K) (tVar 0) (tC (.int 0)))) (gName 1))
  (tSeq (tIfS (tNot (tB (tCall sp_is_plain_tuple [] E0 (tCons (tVar 0) (tCons (tOp rAddI (tCB (rLenV K) (tCons (tVar 1) tNil)) (tC (.int 1))) tNil))))) (tRet (tC (.bl false))) tNext)
  (tSeq (tIfS (tNot (tB (tCB (rAll K) (tCons (tLc (iZipS K (tCons (tVar 1) (tCons (tSl (rSl K) (tVar 0) (tPart (tC (.int 1))) tNoPart) tNil))) (gTup K 2 (gCons (gName 2) (gCons (gName 3) gNil))) tYes (tOrV (tAndV (tOp (rEqD K) (tVar 2) (tC (.str "v"))) (tOp rIsN (tVar 3) (tC .non))) (tCall sp_is_within [] E0 (tCons (tVar 3) (tCons (tC (.int 0)) (tCons (tOp (rKItem K A.dM) (tC (.ref A.dM)) (tVar 2)) tNil))))) [2, 3]) tNil)))) (tRet (tC (.bl false))) tNext)
  (tRet (tOrV (tOp (rNeD K) (tOp (rIx K) (tVar 0) (tC (.int 0))) (tC (.str "copy"))) (tOp (rNeD K) (tOp (rIx K) (tVar 0) (tC (.int 1))) (tOp (rIx K) (tVar 0) (tC (.int 2))))))))))
def t_need_steps (K : PySem.W.Frag) (A : Ads) (E : XK) (sp_is_listed : Sp) (sp_is_step : Sp) (sp_fixed : Sp) : TS := (tSeq (tIfS (tNot (tB (tCall sp_is_listed [] E0 (tCons (tVar 0) tNil)))) (tRaiseX A.cBadProgram ["at"] (fun c d _ H => E c d H) (tCons (tUn rNeg (tC (.int 1))) tNil)) tNext)
  (tSeq (tFor (iEnumS K (tCons (tVar 0) tNil)) (gTup K 2 (gCons (gName 1) (gCons (gName 2) gNil))) (tIfS (tNot (tB (tCall sp_is_step [] E0 (tCons (tVar 2) tNil)))) (tRaiseX A.cBadProgram ["at"] (fun c d _ H => E c d H) (tCons (tVar 1) tNil)) tNext))
  (tRet (tCall sp_fixed [] E0 (tCons (tVar 0) tNil)))))
def t_step_words (K : PySem.W.Frag) (A : Ads) (E : XK) : TS := (tRet (tLst (tCons (tOp (rIx K) (tVar 0) (tC (.int 0))) (tStar K (tLc (iSeq K (tSl (rSl K) (tVar 0) (tPart (tC (.int 1))) tNoPart)) (gName 1) tYes (tIf (tTest (tOp rIsN (tVar 1) (tC .non))) (tC (.str "-")) (tCB rStrI (tCons (tVar 1) tNil))) [1]) tNil))))
def t_step_text (K : PySem.W.Frag) (A : Ads) (E : XK) (sp_step_words : Sp) : TS := (tRet (tM1 (rJoin K) (tC (.str " ")) (tCall sp_step_words [] E0 (tCons (tVar 0) tNil))))
def t_program_text (K : PySem.W.Frag) (A : Ads) (E : XK) (sp_need_steps : Sp) (sp_step_text : Sp) : TS := (tSeq (tAsg (tCall sp_need_steps [] E (tCons (tVar 0) tNil)) (gName 1))
  (tRet (tIf (tTest (tOp rGtI (tCB (rLenV K) (tCons (tVar 1) tNil)) (tC (.int 0)))) (tM1 (rJoin K) (tC (.str "\n")) (tLc (iSeq K (tVar 1)) (gName 2) tYes (tCall sp_step_text [] E0 (tCons (tVar 2) tNil)) [2])) (tC (.str "-")))))
def t_taken_step (K : PySem.W.Frag) (A : Ads) (E : XK) (sp_Scan_take_of : Sp) (sp_Scan_ahead : Sp) (sp_Scan_stop : Sp) (sp_Scan_take_number : Sp) : TS := (tSeq (tAsg (tLst (tCons (tMeth A.cScan "take_of" sp_Scan_take_of [] E (tVar 0) (tCons (tCB (rKList A.dF ksFORMS) (tCons (tC (.ref A.dF)) tNil)) tNil)) tNil)) (gName 1))
  (tSeq (tFor (iSeq K (tOp (rKItem K A.dF) (tC (.ref A.dF)) (tOp (rIx K) (tVar 1) (tC (.int 0))))) (gName 2) (tIfS (tAnd (tTest (tOp (rEqD K) (tVar 2) (tC (.str "v")))) (tTest (tOp (rEqD K) (tMeth A.cScan "ahead" sp_Scan_ahead [] E0 (tVar 0) tNil) (tC (.str "-"))))) (tSeq (tDrop (tMeth A.cScan "take_of" sp_Scan_take_of [] E (tVar 0) (tCons (tTup (tCons (tC (.str "-")) tNil)) tNil)))
  (tDrop (tBM K "list" rAppend (tVar 1) (tCons (tC .non) tNil)))) (tSeq (tIfS (tAnd (tTest (tOp (rEqD K) (tOp (rIx K) (tVar 1) (tC (.int 0))) (tC (.str "copy")))) (tAnd (tTest (tOp (rEqD K) (tCB (rLenV K) (tCons (tVar 1) tNil)) (tC (.int 2)))) (tTest (tOp (rEqD K) (tMeth A.cScan "ahead" sp_Scan_ahead [] E0 (tVar 0) tNil) (tCB rStrI (tCons (tOp (rIx K) (tVar 1) (tC (.int 1))) tNil)))))) (tDrop (tMeth A.cScan "stop" sp_Scan_stop [] E (tVar 0) tNil)) tNext)
  (tDrop (tBM K "list" rAppend (tVar 1) (tCons (tMeth A.cScan "take_number" sp_Scan_take_number [] E (tVar 0) (tCons (tC (.int 0)) (tCons (tOp (rKItem K A.dM) (tC (.ref A.dM)) (tVar 2)) tNil))) tNil))))))
  (tRet (tCB (rTupOf K) (tCons (tVar 1) tNil)))))
def t_read_program (K : PySem.W.Frag) (A : Ads) (E : XK) (sp_scan_of : Sp) (sp_Scan_is_over : Sp) (sp_taken_step : Sp) (sp_Scan_end_line : Sp) : TS := (tSeq (tIfS (tAnd (tB (tCB (rIsi K) (tCons (tVar 0) (tCons (tC (.ty "str")) tNil)))) (tTest (tOp (rEqD K) (tVar 0) (tC (.str "-"))))) (tRet (tTup tNil)) tNext)
  (tSeq (tPar 1 2 (tCons (tCall sp_scan_of [] E (tCons (tVar 0) tNil)) (tCons (tLst tNil) tNil)))
  (tSeq (tWhile (tNot (tB (tMeth A.cScan "is_over" sp_Scan_is_over [] E0 (tVar 1) tNil))) (tSeq (tDrop (tBM K "list" rAppend (tVar 2) (tCons (tCall sp_taken_step [] E (tCons (tVar 1) tNil)) tNil)))
  (tDrop (tMeth A.cScan "end_line" sp_Scan_end_line [] E (tVar 1) tNil))))
  (tRet (tCB (rTupOf K) (tCons (tVar 2) tNil))))))
def t_law_pen (K : PySem.W.Frag) (A : Ads) (E : XK) : TS := (tRet (tDisp [((tC (.str "row")), (tSl (rSl K) (tLc (iSeq K (tVar 0)) (gName 1) tYes (tVar 1) [1]) tNoPart (tPart (tC (.int 80))))), ((tC (.str "at")), (tC (.int 0))), ((tC (.str "rest")), (tC (.int 0)))]))
def t_law_draw (K : PySem.W.Frag) (A : Ads) (E : XK) : TS := (tSeq (tIfS (tTest (tOp rGtI (tDGet (tVar 0) (tC (.str "rest"))) (tC (.int 0)))) (tSeq (tAsg (tCB rIntI (tCons (tDGet (tVar 0) (tC (.str "rest"))) tNil)) (gName 2))
  (tSeq (sDPut (tVar 0) (tC (.str "rest")) (tOp rDivI (tVar 2) (tVar 1)))
  (tRet (tOp rModI (tCB rIntI (tCons (tVar 2) tNil)) (tVar 1))))) tNext)
  (tSeq (tPar 3 4 (tCons (tDGet (tVar 0) (tC (.str "at"))) (tCons (tDGet (tVar 0) (tC (.str "row"))) tNil)))
  (tSeq (sDPut (tVar 0) (tC (.str "at")) (tOp rAddI (tVar 3) (tC (.int 1))))
  (tSeq (tAsg (tOp rAddI (tOp rMulI (tC (.int 29317)) (tVar 3)) (tC (.int 8499))) (gName 5))
  (tSeq (tIfS (tTest (tOp (rNeD K) (tVar 4) (tLst tNil))) (tAsg (tOp (rIx K) (tVar 4) (tOp rModI (tCB rIntI (tCons (tVar 3) tNil)) (tCB (rLenV K) (tCons (tVar 4) tNil)))) (gName 5)) tNext)
  (tSeq (tAsg (tIf (tAnd (tB (tCB (rIsi K) (tCons (tVar 5) (tCons (tC (.ty "int")) tNil)))) (tNot (tB (tCB (rIsi K) (tCons (tVar 5) (tCons (tC (.ty "bool")) tNil)))))) (tVar 5) (tC (.int 0))) (gName 6))
  (tSeq (tIfS (tAnd (tTest (tOp rLtI (tVar 3) (tCB (rLenV K) (tCons (tVar 4) tNil)))) (tTest (tOp rGeI (tCB rAbs (tCons (tVar 6) tNil)) (tOp rPowI (tC (.int 10)) (tC (.int 18)))))) (tSeq (tAsg (tOp rAddI (tOp rMulI (tC (.int 2)) (tOp rSubI (tCB rAbs (tCons (tVar 6) tNil)) (tOp rPowI (tC (.int 10)) (tC (.int 18))))) (tCB rIntI (tCons (tOp rLtI (tVar 6) (tC (.int 0))) tNil))) (gName 2))
  (tSeq (sDPut (tVar 0) (tC (.str "rest")) (tOp rDivI (tCB rIntI (tCons (tVar 2) tNil)) (tVar 1)))
  (tRet (tOp rModI (tCB rIntI (tCons (tVar 2) tNil)) (tVar 1))))) tNext)
  (tSeq (tAsg (tOp rModI (tCB rIntI (tCons (tOp rPowI (tOp rAddI (tOp rAddI (tOp rModI (tCB rIntI (tCons (tVar 6) tNil)) (tC (.int 2147483549))) (tOp rMulI (tC (.int 100835)) (tVar 3))) (tC (.int 8499))) (tC (.int 5))) tNil)) (tC (.int 2147483563))) (gName 7))
  (tSeq (tAsg (tOp rModI (tCB rIntI (tCons (tOp rPowI (tOp rAddI (tOp rAddI (tOp rMulI (tVar 7) (tOp rAddI (tOp rMulI (tC (.int 2)) (tVar 3)) (tC (.int 8029)))) (tOp rMulI (tOp rMulI (tC (.int 109263)) (tVar 3)) (tVar 3))) (tC (.int 100835))) (tC (.int 3))) tNil)) (tC (.int 2147483579))) (gName 7))
  (tRet (tOp rModI (tCB rIntI (tCons (tOp rDivI (tVar 7) (tC (.int 32))) tNil)) (tVar 1))))))))))))
def t_law_pick (K : PySem.W.Frag) (A : Ads) (E : XK) (sp_law_draw : Sp) : TS := (tRet (tOp (rIx K) (tVar 1) (tCall sp_law_draw [] E0 (tCons (tVar 0) (tCons (tCB (rLenV K) (tCons (tVar 1) tNil)) tNil)))))
def t_law_figure (K : PySem.W.Frag) (A : Ads) (E : XK) : TS := (tRet (tOp (rIn K false) (tVar 0) (tLc (iRng2 (tCons (tVar 1) (tCons (tOp rAddI (tVar 2) (tC (.int 1))) tNil))) (gName 3) tYes (tCB rStrI (tCons (tVar 3) tNil)) [3])))
def t_law_step_form (K : PySem.W.Frag) (A : Ads) (E : XK) : TS := (tSeq (tIfS (tOr (tNot (tB (tCB (rIsiT K) (tCons (tVar 0) (tCons (tTup (tCons (tC (.ty "list")) (tCons (tC (.ty "tuple")) tNil))) tNil))))) (tOr (tTest (tOp (rEqD K) (tCB (rLenV K) (tCons (tVar 0) tNil)) (tC (.int 0)))) (tNot (tB (tCB (rIsi K) (tCons (tOp (rIx K) (tVar 0) (tC (.int 0))) (tCons (tC (.ty "str")) tNil))))))) (tRet (tC (.bl false))) tNext)
  (tSeq (tAsg (tDGet1 (tDisp [((tC (.str "new")), (tLst (tCons (tC (.int 4)) (tCons (tC (.int 3)) tNil)))), ((tC (.str "read")), (tLst (tCons (tC (.int 4)) (tCons (tC (.int 4)) (tCons (tC (.int 2)) tNil))))), ((tC (.str "write")), (tLst (tCons (tC (.int 4)) (tCons (tC (.int 2)) (tCons (tC (.int 4)) tNil))))), ((tC (.str "copy")), (tLst (tCons (tC (.int 4)) (tCons (tC (.int 4)) tNil)))), ((tC (.str "drop")), (tLst (tCons (tC (.int 4)) tNil))), ((tC (.str "tick")), (tLst tNil))]) (tOp (rIx K) (tVar 0) (tC (.int 0)))) (gName 1))
  (tSeq (tIfS (tOr (tTest (tOp rIsN (tVar 1) (tC .non))) (tTest (tOp (rNeD K) (tCB (rLenV K) (tCons (tVar 0) tNil)) (tOp rAddI (tCB (rLenV K) (tCons (tVar 1) tNil)) (tC (.int 1)))))) (tRet (tC (.bl false))) tNext)
  (tSeq (tFor (iEnumZipS K (tCons (tSl (rSl K) (tVar 0) (tPart (tC (.int 1))) tNoPart) (tCons (tVar 1) tNil))) (gTup K 2 (gCons (gName 2) (gCons (gTup K 2 (gCons (gName 3) (gCons (gName 4) gNil))) gNil))) (tSeq (tAsg (tAndV (tOp rIsN (tVar 3) (tC .non)) (tAndV (tOp (rEqD K) (tOp (rIx K) (tVar 0) (tC (.int 0))) (tC (.str "write"))) (tOp (rEqD K) (tVar 2) (tC (.int 2))))) (gName 5))
  (tIfS (tAnd (tNot (tB (tVar 5))) (tOr (tNot (tB (tCB (rIsi K) (tCons (tVar 3) (tCons (tC (.ty "int")) tNil))))) (tOr (tB (tCB (rIsi K) (tCons (tVar 3) (tCons (tC (.ty "bool")) tNil)))) (tNot (tTest (tChain rLeI rLtI (tC (.int 0)) (tVar 3) (tVar 4))))))) (tRet (tC (.bl false))) tNext)))
  (tRet (tOrV (tOp (rNeD K) (tOp (rIx K) (tVar 0) (tC (.int 0))) (tC (.str "copy"))) (tOp (rNeD K) (tOp (rIx K) (tVar 0) (tC (.int 1))) (tOp (rIx K) (tVar 0) (tC (.int 2))))))))))
def t_law_step_line (K : PySem.W.Frag) (A : Ads) (E : XK) : TS := (tRet (tM1 (rJoin K) (tC (.str " ")) (tOp rCat (tLst (tCons (tOp (rIx K) (tVar 0) (tC (.int 0))) tNil)) (tLc (iSeq K (tSl (rSl K) (tVar 0) (tPart (tC (.int 1))) tNoPart)) (gName 1) tYes (tIf (tTest (tOp rIsN (tVar 1) (tC .non))) (tC (.str "-")) (tCB rStrI (tCons (tVar 1) tNil))) [1]))))
def t_law_line_wrong (K : PySem.W.Frag) (A : Ads) (E : XK) (sp_law_figure : Sp) : TS := (tSeq (tAsg (tDGet1 (tDisp [((tC (.str "new")), (tLst (tCons (tC (.int 4)) (tCons (tC (.int 3)) tNil)))), ((tC (.str "read")), (tLst (tCons (tC (.int 4)) (tCons (tC (.int 4)) (tCons (tC (.int 2)) tNil))))), ((tC (.str "write")), (tLst (tCons (tC (.int 4)) (tCons (tC (.int 2)) (tCons (tC (.int 4)) tNil))))), ((tC (.str "copy")), (tLst (tCons (tC (.int 4)) (tCons (tC (.int 4)) tNil)))), ((tC (.str "drop")), (tLst (tCons (tC (.int 4)) tNil))), ((tC (.str "tick")), (tLst tNil))]) (tOp (rIx K) (tVar 0) (tC (.int 0)))) (gName 1))
  (tSeq (tIfS (tTest (tOp rIsN (tVar 1) (tC .non))) (tRet (tC (.int 0))) tNext)
  (tSeq (tFor (iEnumS K (tCons (tVar 1) tNil)) (gTup K 2 (gCons (gName 2) (gCons (gName 3) gNil))) (tSeq (tIfS (tTest (tOp rGeI (tOp rAddI (tVar 2) (tC (.int 1))) (tCB (rLenV K) (tCons (tVar 0) tNil)))) (tRet (tOp rAddI (tVar 2) (tC (.int 1)))) tNext)
  (tSeq (tAsg (tAndV (tOp (rEqD K) (tOp (rIx K) (tVar 0) (tC (.int 0))) (tC (.str "write"))) (tAndV (tOp (rEqD K) (tVar 2) (tC (.int 2))) (tOp (rEqD K) (tOp (rIx K) (tVar 0) (tOp rAddI (tVar 2) (tC (.int 1)))) (tC (.str "-"))))) (gName 4))
  (tIfS (tOr (tAnd (tNot (tB (tVar 4))) (tNot (tB (tCall sp_law_figure [] E0 (tCons (tOp (rIx K) (tVar 0) (tOp rAddI (tVar 2) (tC (.int 1)))) (tCons (tC (.int 0)) (tCons (tOp rSubI (tVar 3) (tC (.int 1))) tNil))))))) (tAnd (tTest (tOp (rEqD K) (tOp (rIx K) (tVar 0) (tC (.int 0))) (tC (.str "copy")))) (tAnd (tTest (tOp (rEqD K) (tVar 2) (tC (.int 1)))) (tTest (tOp (rEqD K) (tOp (rIx K) (tVar 0) (tC (.int 1))) (tOp (rIx K) (tVar 0) (tC (.int 2)))))))) (tRet (tOp rAddI (tVar 2) (tC (.int 1)))) tNext))))
  (tRet (tIf (tTest (tOp rGtI (tCB (rLenV K) (tCons (tVar 0) tNil)) (tOp rAddI (tCB (rLenV K) (tCons (tVar 1) tNil)) (tC (.int 1))))) (tOp rAddI (tCB (rLenV K) (tCons (tVar 1) tNil)) (tC (.int 1))) (tC .non))))))
def t_law_bent (K : PySem.W.Frag) (A : Ads) (E : XK) (sp_law_draw : Sp) (sp_law_pick : Sp) : TS := (tSeq (tAsg (tCall sp_law_draw [] E0 (tCons (tVar 0) (tCons (tCB (rLenV K) (tCons (tVar 1) tNil)) tNil))) (gName 2))
  (tSeq (tPar 3 4 (tCons (tOp (rIx K) (tVar 1) (tVar 2)) (tCons (tCall sp_law_draw [] E0 (tCons (tVar 0) (tCons (tC (.int 8)) tNil))) tNil)))
  (tSeq (tAsg (tCall sp_law_draw [] E0 (tCons (tVar 0) (tCons (tCB (rLenV K) (tCons (tVar 3) tNil)) tNil))) (gName 5))
  (tSeq (tAsg (tCall sp_law_pick [] E0 (tCons (tVar 0) (tCons (tLst (tCons (tC (.str "0")) (tCons (tC (.str "1")) (tCons (tC (.str "2")) (tCons (tC (.str "3")) (tCons (tC (.str "4")) (tCons (tC (.str "01")) (tCons (tC (.str "-1")) (tCons (tC (.str "+1")) (tCons (tC (.str "1_0")) (tCons (tC (.str "-")) (tCons (tC (.str "")) (tCons (tC (.str "new")) (tCons (tC (.str "read")) (tCons (tC (.str "write")) (tCons (tC (.str "copy")) (tCons (tC (.str "drop")) (tCons (tC (.str "tick")) (tCons (tC (.str "New")) (tCons (tC (.str "10")) (tCons (tC (.str " ")) (tCons (tC (.str "none")) tNil)))))))))))))))))))))) tNil))) (gName 6))
  (tSeq (tAsg (tIf (tTest (tOp (rNeD K) (tVar 6) (tC (.str " ")))) (tVar 6) (tC (.str ""))) (gName 6))
  (tSeq (tIfS (tTest (tOp rLtI (tVar 4) (tC (.int 4)))) (tSeq (tAsg (tOp (rIx K) (tLst (tCons (tOp rCat (tSl (rSl K) (tVar 3) tNoPart (tPart (tVar 5))) (tSl (rSl K) (tVar 3) (tPart (tOp rAddI (tVar 5) (tC (.int 1)))) tNoPart)) (tCons (tOp rCat (tOp rCat (tSl (rSl K) (tVar 3) tNoPart (tPart (tVar 5))) (tLst (tCons (tVar 6) tNil))) (tSl (rSl K) (tVar 3) (tPart (tVar 5)) tNoPart)) (tCons (tOp rCat (tOp rCat (tSl (rSl K) (tVar 3) tNoPart (tPart (tVar 5))) (tLst (tCons (tVar 6) tNil))) (tSl (rSl K) (tVar 3) (tPart (tOp rAddI (tVar 5) (tC (.int 1)))) tNoPart)) (tCons (tOp rCat (tVar 3) (tLst (tCons (tVar 6) tNil))) tNil))))) (tVar 4)) (gName 7))
  (tRet (tOp rCat (tOp rCat (tSl (rSl K) (tVar 1) tNoPart (tPart (tVar 2))) (tLst (tCons (tIf (tTest (tOp (rNeD K) (tVar 7) (tLst tNil))) (tVar 7) (tLst (tCons (tC (.str "")) tNil))) tNil))) (tSl (rSl K) (tVar 1) (tPart (tOp rAddI (tVar 2) (tC (.int 1)))) tNoPart)))) tNext)
  (tSeq (tIfS (tTest (tOp (rEqD K) (tVar 4) (tC (.int 4)))) (tRet (tIf (tTest (tOp rGtI (tCB (rLenV K) (tCons (tVar 1) tNil)) (tC (.int 1)))) (tOp rCat (tSl (rSl K) (tVar 1) tNoPart (tPart (tVar 2))) (tSl (rSl K) (tVar 1) (tPart (tOp rAddI (tVar 2) (tC (.int 1)))) tNoPart)) (tLst (tCons (tLst (tCons (tVar 6) tNil)) tNil)))) tNext)
  (tSeq (tIfS (tTest (tOp (rEqD K) (tVar 4) (tC (.int 5)))) (tRet (tOp rCat (tOp rCat (tSl (rSl K) (tVar 1) tNoPart (tPart (tVar 2))) (tLst (tCons (tVar 3) tNil))) (tSl (rSl K) (tVar 1) (tPart (tVar 2)) tNoPart))) tNext)
  (tSeq (tIfS (tTest (tOp (rEqD K) (tVar 4) (tC (.int 6)))) (tRet (tOp rCat (tOp rCat (tSl (rSl K) (tVar 1) tNoPart (tPart (tVar 2))) (tLst (tCons (tLst (tCons (tVar 6) tNil)) tNil))) (tSl (rSl K) (tVar 1) (tPart (tVar 2)) tNoPart))) tNext)
  (tRet (tOp rCat (tVar 1) (tLst (tCons (tLst (tCons (tVar 6) tNil)) tNil)))))))))))))
end Nv
set_option Elab.async false
set_option linter.all false
set_option maxRecDepth 100000
set_option maxHeartbeats 4000000
namespace Nv
open PySem PySem.Spec PyProof.Rows L2 StX NvZ
def t_law_any_step (K : PySem.W.Frag) (A : Ads) (E : XK) (sp_law_draw : Sp) (sp_law_pick : Sp) : TS := (tSeq (tPar3 1 2 3 (tCons (tCall sp_law_pick [] E0 (tCons (tVar 0) (tCons (tLst (tCons (tC (.str "new")) (tCons (tC (.str "read")) (tCons (tC (.str "write")) (tCons (tC (.str "copy")) (tCons (tC (.str "drop")) (tCons (tC (.str "tick")) tNil))))))) tNil))) (tCons (tCall sp_law_draw [] E0 (tCons (tVar 0) (tCons (tC (.int 4)) tNil))) (tCons (tCall sp_law_draw [] E0 (tCons (tVar 0) (tCons (tC (.int 4)) tNil))) tNil))))
  (tSeq (tIfS (tTest (tOp (rEqD K) (tVar 1) (tC (.str "new")))) (tRet (tTup (tCons (tVar 1) (tCons (tVar 2) (tCons (tCall sp_law_draw [] E0 (tCons (tVar 0) (tCons (tC (.int 3)) tNil))) tNil))))) tNext)
  (tSeq (tIfS (tTest (tOp (rEqD K) (tVar 1) (tC (.str "read")))) (tRet (tTup (tCons (tVar 1) (tCons (tVar 2) (tCons (tVar 3) (tCons (tCall sp_law_draw [] E0 (tCons (tVar 0) (tCons (tC (.int 2)) tNil))) tNil)))))) tNext)
  (tSeq (tIfS (tTest (tOp (rEqD K) (tVar 1) (tC (.str "write")))) (tRet (tTup (tCons (tVar 1) (tCons (tVar 2) (tCons (tCall sp_law_draw [] E0 (tCons (tVar 0) (tCons (tC (.int 2)) tNil))) (tCons (tCall sp_law_pick [] E0 (tCons (tVar 0) (tCons (tLst (tCons (tC .non) (tCons (tVar 3) (tCons (tVar 3) tNil)))) tNil))) tNil)))))) tNext)
  (tSeq (tIfS (tTest (tOp (rEqD K) (tVar 1) (tC (.str "copy")))) (tRet (tTup (tCons (tVar 1) (tCons (tVar 2) (tCons (tIf (tTest (tOp (rNeD K) (tVar 3) (tVar 2))) (tVar 3) (tOp rModI (tOp rAddI (tVar 2) (tC (.int 1))) (tC (.int 4)))) tNil))))) tNext)
  (tRet (tIf (tTest (tOp (rEqD K) (tVar 1) (tC (.str "drop")))) (tTup (tCons (tVar 1) (tCons (tVar 2) tNil))) (tTup (tCons (tVar 1) tNil)))))))))
end Nv
set_option Elab.async false
set_option linter.all false
set_option maxRecDepth 100000
set_option maxHeartbeats 4000000
/-! != of a dict and a text. -/
namespace NvV
open PySem PySem.SeqAt PySem.Calls PyProof.Rows PySem.W
variable {prog : Program} {w : World} {Kt : Type} [DecidableEq Kt] {knd : KeyKind prog w Kt} {A : Around} {E : Value → Shared → Prop} {s : Shared}
theorem dict_call {a : Addr} {ka : List (Kt × Value)} {t : Str} {u : Tok} {Q : Value → Shared → Prop} (da : s.heap.DictOf knd a ka) (h : Q .notImplemented s) : wpAny (model prog w) A (call (.builtin "dict.__ne__") [.ref a, .str t u]) Q E s := by
  refine wpAny_call_entry PySem.F.slot_dict_ne da.typeIs PySem.F.entry_dict_ne ?_ (PySem.F.args_dict_ne_2 _ _)
  show wpAny _ _ (Builtin.Dict.dictSlotArgs "__ne__" ⟨[.ref a, .str t u], []⟩ >>= _) _ _ s
  refine wpAny_bind ?_
  unfold Builtin.Dict.dictSlotArgs
  refine wpAny_bind (wpAny_notOrdered_dict da.typeIs ?_)
  show wpAny _ _ (pure (Value.ref a, Value.str t u)) _ _ s
  refine wpAny_pure ?_
  refine wpAny_bind (wpAny_isInstance (T := "str") (typeIs_str s t u) PySem.F.sub_str_dict ?_)
  simp only [Bool.not_false, if_true]
  wp_walk
  exact ⟨_, rfl, h⟩
open PySem.AutoSeq1 (wpAny_loadPart') in
theorem str_decl (b : Str) (u : Tok) (l : Addr) (c : Value) (es : Array DictEntry) (n : Nat) (dd : Option Addr) (sl : Array (Option Value)) :
    Meets (Builtin.«str.__ne__» ⟨[.str b u, .ref l], []⟩) (fun _ R s => s.heap.get? l = some { cls := c, dict := dd, data := .dict es n, slots := sl } ∧ R (.ok (.ret .notImplemented)) s) :=
  .of_wp fun prog w A R s h => by obtain ⟨hp, g, d, tk, os⟩ := s; obtain ⟨hl, h⟩ := h; wp_walk using wpAny_loadPart' hl, wpAny_load hl; exact ⟨_, rfl, h⟩
theorem ne_dict_str {a : Addr} {ka : List (Kt × Value)} {t : Str} {u : Tok} {Q : Value → Shared → Prop} (da : s.heap.DictOf knd a ka) (hu : A.units < cLine) (h : Q (.bool true) s) : wpAny (model prog w) A (compareOp .NotEq (.ref a) (.str t u)) Q E s := by
  refine rc_ne_decline_or (k := false) da.typeIs (typeIs_str s t u) (by decide) PySem.F.sub_str_dict PySem.F.slot_dict_ne PySem.F.slot_str_ne_refl (fun Q' hq => dict_call da hq) (fun Q' hq => ?_) (fun _ hq => wpAny_of_eq (rfl : isSame (.ref a) (.str t u) = pure false) hq) (.inr hu) h
  obtain ⟨⟨cls, dd, data, sl⟩, es, ep, ho, hx, hd, _⟩ := id da
  simp only at hd
  subst hd
  exact call_meets PySem.F.slot_str_ne_refl (typeIs_str s t u) PySem.F.entry_str_ne (PySem.F.args_str_ne_2 _ _) (str_decl t u a cls es ep dd sl) ⟨ho, hq⟩
end NvV
namespace Nv
open PySem PySem.Spec PyProof.Rows L2 StX NvZ
/-- != of data, and of a dict and a text -/
def rNeE (K : PySem.W.Frag) : V → V → Hp → VK → Prop := fun x y H Q => rNeD K x y H Q ∨ ∃ a kvs t, x = .ref a ∧ y = .str t ∧ H a = some (.dK kvs) ∧ Q (.bl true) H
theorem op_neE {X : Cx} (hu : X.A.units + 64 < cLine) : OpR X (compareOp .NotEq) (rNeE X.K) := by
  intro pins s σ H x y v u Q I rx ry h
  rcases h with h | ⟨a, kvs, t, rfl, rfl, ea, q⟩
  · exact op_neD hu pins s σ H x y v u Q I rx ry h
  · obtain rfl : v = Value.ref a := rx
    obtain ⟨_, ya, va, ra, da⟩ := (show ObjOk X.prog X.w H s.heap a (.dK kvs) from I.hok a _ ea)
    obtain ⟨tok, rfl⟩ := ry
    refine NvV.ne_dict_str da (Nat.lt_of_le_of_lt (Nat.le_add_right _ _) hu) ?_
    exact ⟨.bl true, H, I, rfl, q⟩
end Nv
set_option Elab.async false
set_option linter.all false
set_option maxRecDepth 100000
set_option maxHeartbeats 4000000
namespace Nv
open PySem PySem.Spec PyProof.Rows L2 StX NvZ LamX
def t_law (K : PySem.W.Frag) (A : Ads) (T : List (Addr × Str)) (TT : (XK → Hp → VK → Prop) → Hp → VK → Prop) (sp_law_pen : Sp) (sp_law_draw : Sp) (sp_law_any_step : Sp) (sp_law_step_line : Sp) (sp_law_bent : Sp) (sp_law_line_wrong : Sp) (sp_read_program : Sp) (sp_program_text : Sp) (sp_law_step_form : Sp) (sp_law_pick : Sp) : TS := (tSeq (tAsg (tCall sp_law_pen [] E0 (tCons (tVar 0) tNil)) (gName 1))
  (tSeq (tFor (iRng1 (tCons (tC (.int 8)) tNil)) (gName 2) (tSeq (tAsg (tLc (iRng1 (tCons (tOp rAddI (tC (.int 1)) (tCall sp_law_draw [] E0 (tCons (tVar 1) (tCons (tC (.int 5)) tNil)))) tNil)) (gName 5) tYes (tCall sp_law_any_step [] E0 (tCons (tVar 1) tNil)) [5]) (gName 3))
  (tSeq (tAsg (tLc (iSeq K (tVar 3)) (gName 11) tYes (tM1 rSplit (tCall sp_law_step_line [] E0 (tCons (tVar 11) tNil)) (tC (.str " "))) [11]) (gName 4))
  (tSeq (tFor (iRng1 (tCons (tC (.int 5)) tNil)) (gName 5) (tSeq (tAsg (tCall sp_law_bent [] E0 (tCons (tVar 1) (tCons (tVar 4) tNil))) (gName 6))
  (tSeq (tAsg (tIf (tTest (tOp (rEqD K) (tCall sp_law_draw [] E0 (tCons (tVar 1) (tCons (tC (.int 4)) tNil))) (tC (.int 0)))) (tCall sp_law_bent [] E0 (tCons (tVar 1) (tCons (tVar 6) tNil))) (tVar 6)) (gName 6))
  (tSeq (tAsg (tLc (iEnumS K (tCons (tVar 6) tNil)) (gTup K 2 (gCons (gName 17) (gCons (gName 18) gNil))) (tTest (tOp rNotN (tCall sp_law_line_wrong [] E0 (tCons (tVar 18) tNil)) (tC .non))) (tTup (tCons (tVar 17) (tCons (tCall sp_law_line_wrong [] E0 (tCons (tVar 18) tNil)) tNil))) [17, 18]) (gName 7))
  (tSeq (tAsg (tM1 (rJoin K) (tC (.str "\n")) (tLc (iSeq K (tVar 6)) (gName 18) tYes (tM1 (rJoin K) (tC (.str " ")) (tVar 18)) [18])) (gName 8))
  (tSeq (tAsg (tLam T TT fun E => (tCall sp_read_program [] E (tCons (tVar 8) tNil))) (gName 9))
  (tIfS (tTest (tOp (rEqD K) (tVar 8) (tC (.str "-")))) (tIfS (tTest (tOp (rNeD K) (tVar 9) (tLst (tCons (tTup tNil) tNil)))) (tRet (tC (.bl false))) tNext) (tIfS (tTest (tOp (rNeD K) (tVar 7) (tLst tNil))) (tIfS (tTest (tOp (rNeD K) (tVar 9) (tTup (tCons (tC (.str "text")) (tCons (tOp (rIx K) (tOp (rIx K) (tVar 7) (tC (.int 0))) (tC (.int 0))) (tCons (tOp (rIx K) (tOp (rIx K) (tVar 7) (tC (.int 0))) (tC (.int 1))) tNil)))))) (tRet (tC (.bl false))) tNext) (tIfS (tOr (tNot (tB (tCB (rIsi K) (tCons (tVar 9) (tCons (tC (.ty "list")) tNil))))) (tOr (tTest (tOp (rNeD K) (tCall sp_program_text [] E0 (tCons (tOp (rIx K) (tVar 9) (tC (.int 0))) tNil)) (tVar 8))) (tTest (tOp (rNeD K) (tLc (iSeq K (tOp (rIx K) (tVar 9) (tC (.int 0)))) (gName 11) (tNot (tB (tCall sp_law_step_form [] E0 (tCons (tVar 11) tNil)))) (tVar 11) [11]) (tLst tNil))))) (tRet (tC (.bl false))) tNext)))))))))
  (tSeq (tPar 10 11 (tCons (tCall sp_law_draw [] E0 (tCons (tVar 1) (tCons (tCB (rLenV K) (tCons (tVar 3) tNil)) tNil))) (tCons (tCall sp_law_any_step [] E0 (tCons (tVar 1) tNil)) tNil)))
  (tSeq (tAsg (tLst (tCons (tC .non) (tCons (tC (.int 5)) (tCons (tC (.str "drop")) (tCons (tTup tNil) (tCons (tOp (rCatA K) (tVar 11) (tTup (tCons (tC (.int 0)) tNil))) (tCons (tOp (rCatA K) (tSl (rSl K) (tVar 11) tNoPart (tPart (tUn rNeg (tC (.int 1))))) (tTup (tCons (tC (.bl true)) tNil))) (tCons (tTup (tCons (tC (.str "drop")) (tCons (tC (.int 4)) tNil))) (tCons (tTup (tCons (tC (.str "new")) (tCons (tC (.int 0)) (tCons (tC (.int 3)) tNil)))) (tCons (tTup (tCons (tC (.str "copy")) (tCons (tC (.int 2)) (tCons (tC (.int 2)) tNil)))) (tCons (tTup (tCons (tC (.str "write")) (tCons (tC .non) (tCons (tC (.int 0)) (tCons (tC (.int 0)) tNil))))) tNil))))))))))) (gName 12))
  (tSeq (tAsg (tCall sp_law_pick [] E0 (tCons (tVar 1) (tCons (tOp rCat (tVar 12) (tLst (tCons (tTup (tCons (tC (.str "tick")) (tCons (tC .non) tNil))) (tCons tDNewK (tCons (tLst (tCons (tCB (rListOf K) (tCons (tVar 11) tNil)) tNil)) (tCons (tTup (tCons (tC (.str "read")) (tCons (tC (.int 0)) (tCons (tC (.int 0)) (tCons (tC (.int 2)) tNil))))) tNil)))))) tNil))) (gName 13))
  (tSeq (tAsg (tOp rCat (tOp rCat (tSl (rSl K) (tVar 3) tNoPart (tPart (tVar 10))) (tLst (tCons (tVar 13) tNil))) (tSl (rSl K) (tVar 3) (tPart (tVar 10)) tNoPart)) (gName 14))
  (tSeq (tAsg (tLc (iEnumS K (tCons (tVar 14) tNil)) (gTup K 2 (gCons (gName 19) (gCons (gName 20) gNil))) (tNot (tB (tCall sp_law_step_form [] E0 (tCons (tVar 20) tNil)))) (tVar 19) [19, 20]) (gName 15))
  (tSeq (tIfS (tTest (tOp (rNeD K) (tLam T TT fun E => (tCall sp_program_text [] E (tCons (tVar 14) tNil))) (tIf (tTest (tOp (rNeD K) (tVar 15) (tLst tNil))) (tTup (tCons (tC (.str "program")) (tCons (tOp (rIx K) (tVar 15) (tC (.int 0))) tNil))) (tLst (tCons (tCall sp_program_text [] E0 (tCons (tVar 14) tNil)) tNil))))) (tRet (tC (.bl false))) tNext)
  (tSeq (tAsg (tCall sp_law_pick [] E0 (tCons (tVar 1) (tCons (tLst (tCons (tC .non) (tCons (tC (.int 5)) (tCons (tC (.str "tick")) (tCons tDNewK (tCons (tC (.bl true)) tNil)))))) tNil))) (gName 16))
  (tSeq (tAsg (tM1 (rJoin K) (tC (.str "\n")) (tLc (iSeq K (tVar 4)) (gName 18) tYes (tM1 (rJoin K) (tC (.str " ")) (tVar 18)) [18])) (gName 8))
  (tSeq (tAsg (tLst (tCons (tLam T TT fun E => (tCall sp_program_text [] E (tCons (tVar 16) tNil))) (tCons (tLam T TT fun E => (tCall sp_read_program [] E (tCons (tIf (tTest (tOp (rNeE K) (tVar 16) (tC (.str "tick")))) (tVar 16) (tC (.int 5))) tNil))) tNil))) (gName 9))
  (tSeq (tAsg (tOp rCat (tVar 9) (tLst (tCons (tLam T TT fun E => (tCall sp_read_program [] E (tCons (tOp rAddS (tVar 8) (tC (.str "\n"))) tNil))) (tCons (tLam T TT fun E => (tCall sp_read_program [] E (tCons (tC (.str "")) tNil))) tNil)))) (gName 9))
  (tIfS (tTest (tOp (rNeD K) (tVar 9) (tLst (tCons (tTup (tCons (tC (.str "program")) (tCons (tUn rNeg (tC (.int 1))) tNil))) (tCons (tTup (tCons (tC (.str "text")) (tCons (tC (.int 0)) (tCons (tC (.int 0)) tNil)))) (tCons (tTup (tCons (tC (.str "text")) (tCons (tCB (rLenV K) (tCons (tVar 4) tNil)) (tCons (tC (.int 0)) tNil)))) (tCons (tTup (tCons (tC (.str "text")) (tCons (tC (.int 0)) (tCons (tC (.int 0)) tNil)))) tNil))))))) (tRet (tC (.bl false))) tNext)))))))))))))))
  (tRet (tOp (rEqD K) (tLst (tCons (tLam T TT fun E => (tCall sp_read_program [] E (tCons (tC (.str "-\n-")) tNil))) (tCons (tLam T TT fun E => (tCall sp_read_program [] E (tCons (tC (.str "tick\n-")) tNil))) tNil))) (tLst (tCons (tTup (tCons (tC (.str "text")) (tCons (tC (.int 0)) (tCons (tC (.int 0)) tNil)))) (tCons (tTup (tCons (tC (.str "text")) (tCons (tC (.int 1)) (tCons (tC (.int 0)) tNil)))) tNil)))))))
end Nv
set_option Elab.async false
set_option linter.all false
set_option maxRecDepth 100000
set_option maxHeartbeats 4000000
namespace Nv
open PySem PySem.Spec PyProof.Rows L2 StX NvZ
abbrev st_is_integer : Stmt := PySem.Challenge.pw_nevergone_k94_texts_of_programs_refused.main.body.getD 2 (.Pass ⟨0, 0, 0, 0⟩)
theorem sc_is_integer : FnScope ["value"] ["value"] (defScope st_is_integer) := ⟨rfl, rfl, rfl, by decide +kernel, rfl, by decide +kernel, by decide +kernel⟩
abbrev st_is_within : Stmt := PySem.Challenge.pw_nevergone_k94_texts_of_programs_refused.main.body.getD 3 (.Pass ⟨0, 0, 0, 0⟩)
theorem sc_is_within : FnScope ["value", "least", "most"] ["value", "least", "most"] (defScope st_is_within) := ⟨rfl, rfl, rfl, by decide +kernel, rfl, by decide +kernel, by decide +kernel⟩
abbrev st_is_listed : Stmt := PySem.Challenge.pw_nevergone_k94_texts_of_programs_refused.main.body.getD 4 (.Pass ⟨0, 0, 0, 0⟩)
theorem sc_is_listed : FnScope ["value"] ["value"] (defScope st_is_listed) := ⟨rfl, rfl, rfl, by decide +kernel, rfl, by decide +kernel, by decide +kernel⟩
abbrev st_is_plain_tuple : Stmt := PySem.Challenge.pw_nevergone_k94_texts_of_programs_refused.main.body.getD 5 (.Pass ⟨0, 0, 0, 0⟩)
theorem sc_is_plain_tuple : FnScope ["value", "many"] ["value", "many"] (defScope st_is_plain_tuple) := ⟨rfl, rfl, rfl, by decide +kernel, rfl, by decide +kernel, by decide +kernel⟩
abbrev st_fixed : Stmt := PySem.Challenge.pw_nevergone_k94_texts_of_programs_refused.main.body.getD 20 (.Pass ⟨0, 0, 0, 0⟩)
theorem sc_fixed : FnScope ["value", "part"] ["value"] (defScope st_fixed) := ⟨rfl, rfl, rfl, by decide +kernel, rfl, by decide +kernel, by decide +kernel⟩
abbrev st_is_figure : Stmt := PySem.Challenge.pw_nevergone_k94_texts_of_programs_refused.main.body.getD 26 (.Pass ⟨0, 0, 0, 0⟩)
theorem sc_is_figure : FnScope ["word", "least", "most", "sign"] ["word", "least", "most"] (defScope st_is_figure) := ⟨rfl, rfl, rfl, by decide +kernel, rfl, by decide +kernel, by decide +kernel⟩
abbrev st_scan_of : Stmt := PySem.Challenge.pw_nevergone_k94_texts_of_programs_refused.main.body.getD 28 (.Pass ⟨0, 0, 0, 0⟩)
theorem sc_scan_of : FnScope ["text", "line"] ["text"] (defScope st_scan_of) := ⟨rfl, rfl, rfl, by decide +kernel, rfl, by decide +kernel, by decide +kernel⟩
abbrev st_Scan___init__ : Stmt := (C8.clsBody (PySem.Challenge.pw_nevergone_k94_texts_of_programs_refused.main.body.getD 27 (.Pass ⟨0, 0, 0, 0⟩))).getD 0 (.Pass ⟨0, 0, 0, 0⟩)
theorem sc_Scan___init__ : FnScope ["self", "lines"] ["self", "lines"] (defScope st_Scan___init__) := ⟨rfl, rfl, rfl, by decide +kernel, rfl, by decide +kernel, by decide +kernel⟩
abbrev st_Scan_is_over : Stmt := (C8.clsBody (PySem.Challenge.pw_nevergone_k94_texts_of_programs_refused.main.body.getD 27 (.Pass ⟨0, 0, 0, 0⟩))).getD 1 (.Pass ⟨0, 0, 0, 0⟩)
theorem sc_Scan_is_over : FnScope ["self"] ["self"] (defScope st_Scan_is_over) := ⟨rfl, rfl, rfl, by decide +kernel, rfl, by decide +kernel, by decide +kernel⟩
abbrev st_Scan_ahead : Stmt := (C8.clsBody (PySem.Challenge.pw_nevergone_k94_texts_of_programs_refused.main.body.getD 27 (.Pass ⟨0, 0, 0, 0⟩))).getD 2 (.Pass ⟨0, 0, 0, 0⟩)
theorem sc_Scan_ahead : FnScope ["self"] ["self"] (defScope st_Scan_ahead) := ⟨rfl, rfl, rfl, by decide +kernel, rfl, by decide +kernel, by decide +kernel⟩
abbrev st_Scan_stop : Stmt := (C8.clsBody (PySem.Challenge.pw_nevergone_k94_texts_of_programs_refused.main.body.getD 27 (.Pass ⟨0, 0, 0, 0⟩))).getD 3 (.Pass ⟨0, 0, 0, 0⟩)
theorem sc_Scan_stop : FnScope ["self"] ["self"] (defScope st_Scan_stop) := ⟨rfl, rfl, rfl, by decide +kernel, rfl, by decide +kernel, by decide +kernel⟩
abbrev st_Scan_take_of : Stmt := (C8.clsBody (PySem.Challenge.pw_nevergone_k94_texts_of_programs_refused.main.body.getD 27 (.Pass ⟨0, 0, 0, 0⟩))).getD 4 (.Pass ⟨0, 0, 0, 0⟩)
theorem sc_Scan_take_of : FnScope ["self", "words", "word"] ["self", "words"] (defScope st_Scan_take_of) := ⟨rfl, rfl, rfl, by decide +kernel, rfl, by decide +kernel, by decide +kernel⟩
abbrev st_Scan_take_number : Stmt := (C8.clsBody (PySem.Challenge.pw_nevergone_k94_texts_of_programs_refused.main.body.getD 27 (.Pass ⟨0, 0, 0, 0⟩))).getD 5 (.Pass ⟨0, 0, 0, 0⟩)
theorem sc_Scan_take_number : FnScope ["self", "least", "most", "word"] ["self", "least", "most"] (defScope st_Scan_take_number) := ⟨rfl, rfl, rfl, by decide +kernel, rfl, by decide +kernel, by decide +kernel⟩
abbrev st_Scan_end_line : Stmt := (C8.clsBody (PySem.Challenge.pw_nevergone_k94_texts_of_programs_refused.main.body.getD 27 (.Pass ⟨0, 0, 0, 0⟩))).getD 7 (.Pass ⟨0, 0, 0, 0⟩)
theorem sc_Scan_end_line : FnScope ["self"] ["self"] (defScope st_Scan_end_line) := ⟨rfl, rfl, rfl, by decide +kernel, rfl, by decide +kernel, by decide +kernel⟩
section
variable {A : Ads} {P : Program} {w : World} {K : PySem.W.Frag} {mg : Str → Option Value} {base : Heap} (B : Blt mg) (T : Tx A P w K mg)
include B T
theorem wk_is_integer {k : Nat} {sp : Sp}  {f : Addr} {fd : FuncData} (F : FnP K "is_integer" "is_integer" st_is_integer f fd) (len : ∀ vs H Q E, sp vs H Q E → vs.length = 1) (ok : ∀ vs H Q E, sp vs H Q E → (t_is_integer K A E) { nx := fun _ H' => Q .non H', rt := Q } (start ["value"] vs) H) : FnOk P w K mg base CX0 (k + 1) f fd ["value"] sp := by
  have nd := sc_is_integer.nd
  refine F.ok sc_is_integer len fun cdv A' outer s H vs Q E hr h => ⟨t_is_integer K A E, PSs.nox ?_, ok vs H Q E h⟩
  exact (pss_one (ps_ret (pe_and (pe_isi B (pv 0) B.int bt_int) (pe_one (pe_not (pe_isi B (pv 0) B.bool bt_bool))))))
theorem wk_is_within {k : Nat} {sp : Sp} {sp_is_integer : Sp} (c_is_integer : Cal P w K mg base CX0 k "is_integer" ["value"] sp_is_integer) {f : Addr} {fd : FuncData} (F : FnP K "is_within" "is_within" st_is_within f fd) (len : ∀ vs H Q E, sp vs H Q E → vs.length = 3) (ok : ∀ vs H Q E, sp vs H Q E → (t_is_within K A E sp_is_integer) { nx := fun _ H' => Q .non H', rt := Q } (start ["value", "least", "most"] vs) H) : FnOk P w K mg base CX0 (k + 1) f fd ["value", "least", "most"] sp := by
  have nd := sc_is_within.nd
  refine F.ok sc_is_within len fun cdv A' outer s H vs Q E hr h => ⟨t_is_within K A E sp_is_integer, PSs.nox ?_, ok vs H Q E h⟩
  exact (pss_one (ps_ret (pe_and (pe_cal c_is_integer hr pass0 (pa_cons (pv 0) pa_nil)) (pe_one (pe_chain op_le op_le (pv 1) (pv 0) (pv 2))))))
theorem wk_is_listed {k : Nat} {sp : Sp}  {f : Addr} {fd : FuncData} (F : FnP K "is_listed" "is_listed" st_is_listed f fd) (len : ∀ vs H Q E, sp vs H Q E → vs.length = 1) (ok : ∀ vs H Q E, sp vs H Q E → (t_is_listed K A E) { nx := fun _ H' => Q .non H', rt := Q } (start ["value"] vs) H) : FnOk P w K mg base CX0 (k + 1) f fd ["value"] sp := by
  have nd := sc_is_listed.nd
  refine F.ok sc_is_listed len fun cdv A' outer s H vs Q E hr h => ⟨t_is_listed K A E, PSs.nox ?_, ok vs H Q E h⟩
  exact (pss_one (ps_ret (pe_isiLT B (pv 0))))
theorem wk_is_plain_tuple {k : Nat} {sp : Sp} {sp_is_listed : Sp} (c_is_listed : Cal P w K mg base CX0 k "is_listed" ["value"] sp_is_listed) {f : Addr} {fd : FuncData} (F : FnP K "is_plain_tuple" "is_plain_tuple" st_is_plain_tuple f fd) (len : ∀ vs H Q E, sp vs H Q E → vs.length = 2) (ok : ∀ vs H Q E, sp vs H Q E → (t_is_plain_tuple K A E sp_is_listed) { nx := fun _ H' => Q .non H', rt := Q } (start ["value", "many"] vs) H) : FnOk P w K mg base CX0 (k + 1) f fd ["value", "many"] sp := by
  have nd := sc_is_plain_tuple.nd
  refine F.ok sc_is_plain_tuple len fun cdv A' outer s H vs Q E hr h => ⟨t_is_plain_tuple K A E sp_is_listed, PSs.nox ?_, ok vs H Q E h⟩
  exact (pss_one (ps_ret (pe_and (pe_cal c_is_listed hr pass0 (pa_cons (pv 0) pa_nil)) (pe_one (pe_cmpR (op_eqD hr.units) (pe_len B (pv 0)) (pv 1) (nomark _))))))
theorem wk_fixed {k : Nat} {sp : Sp} {sp_fixed : Sp} (c_fixed : Cal P w K mg base CX0 k "fixed" ["value"] sp_fixed) {f : Addr} {fd : FuncData} (F : FnP K "fixed" "fixed" st_fixed f fd) (len : ∀ vs H Q E, sp vs H Q E → vs.length = 1) (ok : ∀ vs H Q E, sp vs H Q E → (t_fixed K A E sp_fixed) { nx := fun _ H' => Q .non H', rt := Q } (start ["value", "part"] vs) H) : FnOk P w K mg base CX0 (k + 1) f fd ["value"] sp := by
  have nd := sc_fixed.nd
  refine F.ok sc_fixed len fun cdv A' outer s H vs Q E hr h => ⟨t_fixed K A E sp_fixed, PSs.nox ?_, ok vs H Q E h⟩
  exact (pss_cons (ps_if (pt_val (pe_isiLT B (pv 0))) (pss_one (ps_ret (pe_tupOf B (pe_lc (own := [("part", 1)]) (g := (gName 1)) (tt := tYes) rfl nd (pi_seq (pv 0)) (blkOk_by (N := ["value", "part"]) (sc := defScope st_fixed) (by decide +kernel)) (fun _ _ _ _ _ => (pg_name (i := 1) nd rfl (by first | exact Or.inl rfl | exact Or.inr rfl))) (fun _ _ _ _ _ => pts_nil) (fun _ _ _ _ _ => (pe_cal c_fixed hr pass0 (pa_cons (pv 1) pa_nil))))))) pss_nil) (pss_one (ps_ret (pv 0))))
theorem wk_is_figure {k : Nat} {sp : Sp}  {f : Addr} {fd : FuncData} (F : FnP K "is_figure" "is_figure" st_is_figure f fd) (len : ∀ vs H Q E, sp vs H Q E → vs.length = 3) (ok : ∀ vs H Q E, sp vs H Q E → (t_is_figure K A E) { nx := fun _ H' => Q .non H', rt := Q } (start ["word", "least", "most", "sign"] vs) H) : FnOk P w K mg base CX0 (k + 1) f fd ["word", "least", "most"] sp := by
  have nd := sc_is_figure.nd
  refine F.ok sc_is_figure len fun cdv A' outer s H vs Q E hr h => ⟨t_is_figure K A E, PSs.nox ?_, ok vs H Q E h⟩
  exact (pss_cons (ps_if (PW.pt (pw_or (pt_cmpR op_isN (pv 0) pe_non (nomark _)) (pw_or (pt_not (pt_chain op_le op_le pe_int (pe_len B (pv 0)) pe_int)) (pw_or1 (pt_not (pt_val (pe_all B rfl (pe_lc (own := [("sign", 3)]) (g := (gName 3)) (tt := tYes) rfl nd (pi_seq (pv 0)) (blkOk_by (N := ["word", "least", "most", "sign"]) (sc := defScope st_is_figure) (by decide +kernel)) (fun _ _ _ _ _ => (pg_name (i := 3) nd rfl (by first | exact Or.inl rfl | exact Or.inr rfl))) (fun _ _ _ _ _ => pts_nil) (fun _ _ _ _ _ => (pe_cmpR op_in_sign (pv 3) (pe_globS T.gFIGURES) (by rfl))))))))))) (pss_one (ps_ret pe_bl)) pss_nil) (pss_one (ps_ret (pe_and (pe_or (pe_cmpR (op_eqD hr.units) (pv 0) pe_str (nomark _)) (pe_one (pe_cmpR (op_neD hr.units) (pe_ix ix_seq (pv 0) pe_int (fun _ _ => rfl)) pe_str (nomark _)))) (pe_one (pe_chain op_le op_le (pv 1) (pe_intS B (pv 0)) (pv 2)))))))
theorem wk_scan_of {k : Nat} {sp : Sp} {sp_init : Sp} (c_init : Ini P w K mg base CX0 k A.cScan ["self", "lines"] sp_init) {f : Addr} {fd : FuncData} (F : FnP K "scan_of" "scan_of" st_scan_of f fd) (len : ∀ vs H Q E, sp vs H Q E → vs.length = 1) (ok : ∀ vs H Q E, sp vs H Q E → (t_scan_of K A E sp_init) { nx := fun _ H' => Q .non H', rt := Q } (start ["text", "line"] vs) H) : FnOk P w K mg base (L2.CX P w) (k + 1) f fd ["text"] sp := by
  have nd := sc_scan_of.nd
  refine F.ok sc_scan_of len fun cdv A' outer s H vs Q E hr h => ⟨t_scan_of K A E sp_init, ?_, ok vs H Q E h⟩
  exact (pss_cons (ps_if (pt_not (pt_val (pe_isi B (pv 0) B.str bt_str))) (pss_one (ps_raiseX rfl T.xBadText hr (takes_of rfl rfl rfl rfl) (pa_cons pe_int (pa_cons pe_int pa_nil)))) pss_nil) (pss_one (ps_ret (pe_ini c_init hr pass0 T.gScan (pa_cons (pe_lc (own := [("line", 1)]) (g := (gName 1)) (tt := tYes) rfl nd (pi_seq (pe_split (pv 0) pe_str)) (blkOk_by (N := ["text", "line"]) (sc := defScope st_scan_of) (by decide +kernel)) (fun _ _ _ _ _ => (pg_name (i := 1) nd rfl (by first | exact Or.inl rfl | exact Or.inr rfl))) (fun _ _ _ _ _ => pts_nil) (fun _ _ _ _ _ => (pe_split (pv 1) pe_str))) pa_nil)))))
theorem wk_Scan___init__ {k : Nat} {sp : Sp}  {f : Addr} {fd : FuncData} (F : FnP K "__init__" "Scan.__init__" st_Scan___init__ f fd) (len : ∀ vs H Q E, sp vs H Q E → vs.length = 2) (ok : ∀ vs H Q E, sp vs H Q E → (t_Scan___init__ K A E) { nx := fun _ H' => Q .non H', rt := Q } (start ["self", "lines"] vs) H) : FnOk P w K mg base CX0 (k + 1) f fd ["self", "lines"] sp := by
  have nd := sc_Scan___init__.nd
  refine F.ok sc_Scan___init__ len fun cdv A' outer s H vs Q E hr h => ⟨t_Scan___init__ K A E, PSs.nox ?_, ok vs H Q E h⟩
  exact (pss_cons (ps_fld (pv 0) (pv 1) rfl) (pss_cons (ps_fld (pv 0) pe_int rfl) (pss_one (ps_fld (pv 0) pe_int rfl))))
theorem wk_Scan_is_over {k : Nat} {sp : Sp}  {f : Addr} {fd : FuncData} (F : FnP K "is_over" "Scan.is_over" st_Scan_is_over f fd) (len : ∀ vs H Q E, sp vs H Q E → vs.length = 1) (ok : ∀ vs H Q E, sp vs H Q E → (t_Scan_is_over K A E) { nx := fun _ H' => Q .non H', rt := Q } (start ["self"] vs) H) : FnOk P w K mg base CX0 (k + 1) f fd ["self"] sp := by
  have nd := sc_Scan_is_over.nd
  refine F.ok sc_Scan_is_over len fun cdv A' outer s H vs Q E hr h => ⟨t_Scan_is_over K A E, PSs.nox ?_, ok vs H Q E h⟩
  exact (pss_one (ps_ret (pe_cmpR (op_eqD hr.units) (pe_fld (pv 0) rfl) (pe_len B (pe_fld (pv 0) rfl)) (nomark _))))
theorem wk_Scan_ahead {k : Nat} {sp : Sp} {sp_Scan_is_over : Sp} (c_Scan_is_over : Met P w K mg base CX0 k A.cScan "is_over" ["self"] sp_Scan_is_over) {f : Addr} {fd : FuncData} (F : FnP K "ahead" "Scan.ahead" st_Scan_ahead f fd) (len : ∀ vs H Q E, sp vs H Q E → vs.length = 1) (ok : ∀ vs H Q E, sp vs H Q E → (t_Scan_ahead K A E sp_Scan_is_over) { nx := fun _ H' => Q .non H', rt := Q } (start ["self"] vs) H) : FnOk P w K mg base CX0 (k + 1) f fd ["self"] sp := by
  have nd := sc_Scan_ahead.nd
  refine F.ok sc_Scan_ahead len fun cdv A' outer s H vs Q E hr h => ⟨t_Scan_ahead K A E sp_Scan_is_over, PSs.nox ?_, ok vs H Q E h⟩
  exact (pss_cons (ps_if (PW.pt (pw_or (pt_val (pe_met0 c_Scan_is_over T.clScan hr pass0 (pv 0))) (pw_or1 (pt_cmpR (op_eqD hr.units) (pe_fld (pv 0) rfl) (pe_len B (pe_ix ix_seq (pe_fld (pv 0) rfl) (pe_fld (pv 0) rfl) (fun _ _ => rfl))) (nomark _))))) (pss_one (ps_ret pe_non)) pss_nil) (pss_one (ps_ret (pe_ix ix_seq (pe_ix ix_seq (pe_fld (pv 0) rfl) (pe_fld (pv 0) rfl) (fun _ _ => rfl)) (pe_fld (pv 0) rfl) (fun _ _ => rfl)))))
theorem wk_Scan_stop {k : Nat} {sp : Sp}  {f : Addr} {fd : FuncData} (F : FnP K "stop" "Scan.stop" st_Scan_stop f fd) (len : ∀ vs H Q E, sp vs H Q E → vs.length = 1) (ok : ∀ vs H Q E, sp vs H Q E → (t_Scan_stop K A E) { nx := fun _ H' => Q .non H', rt := Q } (start ["self"] vs) H) : FnOk P w K mg base (L2.CX P w) (k + 1) f fd ["self"] sp := by
  have nd := sc_Scan_stop.nd
  refine F.ok sc_Scan_stop len fun cdv A' outer s H vs Q E hr h => ⟨t_Scan_stop K A E, ?_, ok vs H Q E h⟩
  exact (pss_one (ps_raiseX rfl T.xBadText hr (takes_of rfl rfl rfl rfl) (pa_cons (pe_fld (pv 0) rfl) (pa_cons (pe_fld (pv 0) rfl) pa_nil))))
theorem wk_Scan_take_of {k : Nat} {sp : Sp} {sp_Scan_ahead : Sp} {sp_Scan_stop : Sp} (c_Scan_ahead : Met P w K mg base CX0 k A.cScan "ahead" ["self"] sp_Scan_ahead) (c_Scan_stop : Met P w K mg base (L2.CX P w) k A.cScan "stop" ["self"] sp_Scan_stop) {f : Addr} {fd : FuncData} (F : FnP K "take_of" "Scan.take_of" st_Scan_take_of f fd) (len : ∀ vs H Q E, sp vs H Q E → vs.length = 2) (ok : ∀ vs H Q E, sp vs H Q E → (t_Scan_take_of K A E sp_Scan_ahead sp_Scan_stop) { nx := fun _ H' => Q .non H', rt := Q } (start ["self", "words", "word"] vs) H) : FnOk P w K mg base (L2.CX P w) (k + 1) f fd ["self", "words"] sp := by
  have nd := sc_Scan_take_of.nd
  refine F.ok sc_Scan_take_of len fun cdv A' outer s H vs Q E hr h => ⟨t_Scan_take_of K A E sp_Scan_ahead sp_Scan_stop, ?_, ok vs H Q E h⟩
  exact (pss_cons (ps_set (i := 2) nd rfl (by first | exact Or.inl rfl | exact Or.inr rfl) (pe_met0 c_Scan_ahead T.clScan hr pass0 (pv 0))) (pss_cons (ps_if (PW.pt (pw_or (pt_cmpR op_isN (pv 2) pe_non (nomark _)) (pw_or1 (pt_cmpR op_notIn_seq (pv 2) (pv 1) (by rfl))))) (pss_one (ps_expr (pe_met0 c_Scan_stop T.clScan hr (passE (takes_of rfl rfl rfl rfl) fun _ _ _ _ h => h) (pv 0)))) pss_nil) (pss_cons (ps_fldaug (pv 0) pe_int in_add) (pss_one (ps_ret (pv 2))))))
theorem wk_Scan_take_number {k : Nat} {sp : Sp} {sp_Scan_ahead : Sp} {sp_is_figure : Sp} {sp_Scan_stop : Sp} (c_Scan_ahead : Met P w K mg base CX0 k A.cScan "ahead" ["self"] sp_Scan_ahead) (c_is_figure : Cal P w K mg base CX0 k "is_figure" ["word", "least", "most"] sp_is_figure) (c_Scan_stop : Met P w K mg base (L2.CX P w) k A.cScan "stop" ["self"] sp_Scan_stop) {f : Addr} {fd : FuncData} (F : FnP K "take_number" "Scan.take_number" st_Scan_take_number f fd) (len : ∀ vs H Q E, sp vs H Q E → vs.length = 3) (ok : ∀ vs H Q E, sp vs H Q E → (t_Scan_take_number K A E sp_Scan_ahead sp_is_figure sp_Scan_stop) { nx := fun _ H' => Q .non H', rt := Q } (start ["self", "least", "most", "word"] vs) H) : FnOk P w K mg base (L2.CX P w) (k + 1) f fd ["self", "least", "most"] sp := by
  have nd := sc_Scan_take_number.nd
  refine F.ok sc_Scan_take_number len fun cdv A' outer s H vs Q E hr h => ⟨t_Scan_take_number K A E sp_Scan_ahead sp_is_figure sp_Scan_stop, ?_, ok vs H Q E h⟩
  exact (pss_cons (ps_set (i := 3) nd rfl (by first | exact Or.inl rfl | exact Or.inr rfl) (pe_met0 c_Scan_ahead T.clScan hr pass0 (pv 0))) (pss_cons (ps_if (pt_not (pt_val (pe_cal c_is_figure hr pass0 (pa_cons (pv 3) (pa_cons (pv 1) (pa_cons (pv 2) pa_nil)))))) (pss_one (ps_expr (pe_met0 c_Scan_stop T.clScan hr (passE (takes_of rfl rfl rfl rfl) fun _ _ _ _ h => h) (pv 0)))) pss_nil) (pss_cons (ps_fldaug (pv 0) pe_int in_add) (pss_one (ps_ret (pe_intS B (pv 3)))))))
theorem wk_Scan_end_line {k : Nat} {sp : Sp} {sp_Scan_ahead : Sp} {sp_Scan_is_over : Sp} {sp_Scan_stop : Sp} (c_Scan_ahead : Met P w K mg base CX0 k A.cScan "ahead" ["self"] sp_Scan_ahead) (c_Scan_is_over : Met P w K mg base CX0 k A.cScan "is_over" ["self"] sp_Scan_is_over) (c_Scan_stop : Met P w K mg base (L2.CX P w) k A.cScan "stop" ["self"] sp_Scan_stop) {f : Addr} {fd : FuncData} (F : FnP K "end_line" "Scan.end_line" st_Scan_end_line f fd) (len : ∀ vs H Q E, sp vs H Q E → vs.length = 1) (ok : ∀ vs H Q E, sp vs H Q E → (t_Scan_end_line K A E sp_Scan_ahead sp_Scan_is_over sp_Scan_stop) { nx := fun _ H' => Q .non H', rt := Q } (start ["self"] vs) H) : FnOk P w K mg base (L2.CX P w) (k + 1) f fd ["self"] sp := by
  have nd := sc_Scan_end_line.nd
  refine F.ok sc_Scan_end_line len fun cdv A' outer s H vs Q E hr h => ⟨t_Scan_end_line K A E sp_Scan_ahead sp_Scan_is_over sp_Scan_stop, ?_, ok vs H Q E h⟩
  exact (pss_cons (ps_if (PW.pt (pw_or (pt_cmpR op_notN (pe_met0 c_Scan_ahead T.clScan hr pass0 (pv 0)) pe_non (nomark _)) (pw_or1 (pt_val (pe_met0 c_Scan_is_over T.clScan hr pass0 (pv 0)))))) (pss_one (ps_expr (pe_met0 c_Scan_stop T.clScan hr (passE (takes_of rfl rfl rfl rfl) fun _ _ _ _ h => h) (pv 0)))) pss_nil) (pss_cons (ps_fldaug (pv 0) pe_int in_add) (pss_one (ps_fld (pv 0) pe_int rfl))))
end
end Nv
set_option Elab.async false
set_option linter.all false
set_option maxRecDepth 100000
set_option maxHeartbeats 4000000
namespace Nv
open PySem PySem.Spec PyProof.Rows L2 StX NvZ
abbrev st_is_step : Stmt := PySem.Challenge.pw_nevergone_k94_texts_of_programs_refused.main.body.getD 33 (.Pass ⟨0, 0, 0, 0⟩)
theorem sc_is_step : FnScope ["value", "form", "sort", "part"] ["value"] (defScope st_is_step) := ⟨rfl, rfl, rfl, by decide +kernel, rfl, by decide +kernel, by decide +kernel⟩
abbrev st_need_steps : Stmt := PySem.Challenge.pw_nevergone_k94_texts_of_programs_refused.main.body.getD 34 (.Pass ⟨0, 0, 0, 0⟩)
theorem sc_need_steps : FnScope ["program", "at", "value"] ["program"] (defScope st_need_steps) := ⟨rfl, rfl, rfl, by decide +kernel, rfl, by decide +kernel, by decide +kernel⟩
abbrev st_step_words : Stmt := PySem.Challenge.pw_nevergone_k94_texts_of_programs_refused.main.body.getD 35 (.Pass ⟨0, 0, 0, 0⟩)
theorem sc_step_words : FnScope ["step", "part"] ["step"] (defScope st_step_words) := ⟨rfl, rfl, rfl, by decide +kernel, rfl, by decide +kernel, by decide +kernel⟩
abbrev st_step_text : Stmt := PySem.Challenge.pw_nevergone_k94_texts_of_programs_refused.main.body.getD 36 (.Pass ⟨0, 0, 0, 0⟩)
theorem sc_step_text : FnScope ["step"] ["step"] (defScope st_step_text) := ⟨rfl, rfl, rfl, by decide +kernel, rfl, by decide +kernel, by decide +kernel⟩
abbrev st_program_text : Stmt := PySem.Challenge.pw_nevergone_k94_texts_of_programs_refused.main.body.getD 37 (.Pass ⟨0, 0, 0, 0⟩)
theorem sc_program_text : FnScope ["program", "told", "step"] ["program"] (defScope st_program_text) := ⟨rfl, rfl, rfl, by decide +kernel, rfl, by decide +kernel, by decide +kernel⟩
abbrev st_taken_step : Stmt := PySem.Challenge.pw_nevergone_k94_texts_of_programs_refused.main.body.getD 38 (.Pass ⟨0, 0, 0, 0⟩)
theorem sc_taken_step : FnScope ["scan", "found", "sort"] ["scan"] (defScope st_taken_step) := ⟨rfl, rfl, rfl, by decide +kernel, rfl, by decide +kernel, by decide +kernel⟩
abbrev st_read_program : Stmt := PySem.Challenge.pw_nevergone_k94_texts_of_programs_refused.main.body.getD 39 (.Pass ⟨0, 0, 0, 0⟩)
theorem sc_read_program : FnScope ["text", "scan", "found"] ["text"] (defScope st_read_program) := ⟨rfl, rfl, rfl, by decide +kernel, rfl, by decide +kernel, by decide +kernel⟩
abbrev st_law_pen : Stmt := PySem.Challenge.pw_nevergone_k94_texts_of_programs_refused.main.body.getD 41 (.Pass ⟨0, 0, 0, 0⟩)
theorem sc_law_pen : FnScope ["script", "cell"] ["script"] (defScope st_law_pen) := ⟨rfl, rfl, rfl, by decide +kernel, rfl, by decide +kernel, by decide +kernel⟩
abbrev st_law_draw : Stmt := PySem.Challenge.pw_nevergone_k94_texts_of_programs_refused.main.body.getD 42 (.Pass ⟨0, 0, 0, 0⟩)
theorem sc_law_draw : FnScope ["pen", "most", "great", "at", "row", "cell", "number", "mixed"] ["pen", "most"] (defScope st_law_draw) := ⟨rfl, rfl, rfl, by decide +kernel, rfl, by decide +kernel, by decide +kernel⟩
abbrev st_law_pick : Stmt := PySem.Challenge.pw_nevergone_k94_texts_of_programs_refused.main.body.getD 43 (.Pass ⟨0, 0, 0, 0⟩)
theorem sc_law_pick : FnScope ["pen", "some"] ["pen", "some"] (defScope st_law_pick) := ⟨rfl, rfl, rfl, by decide +kernel, rfl, by decide +kernel, by decide +kernel⟩
abbrev st_law_figure : Stmt := PySem.Challenge.pw_nevergone_k94_texts_of_programs_refused.main.body.getD 45 (.Pass ⟨0, 0, 0, 0⟩)
theorem sc_law_figure : FnScope ["word", "low", "high", "number"] ["word", "low", "high"] (defScope st_law_figure) := ⟨rfl, rfl, rfl, by decide +kernel, rfl, by decide +kernel, by decide +kernel⟩
abbrev st_law_step_form : Stmt := PySem.Challenge.pw_nevergone_k94_texts_of_programs_refused.main.body.getD 46 (.Pass ⟨0, 0, 0, 0⟩)
theorem sc_law_step_form : FnScope ["value", "bounds", "at", "part", "most", "is_none"] ["value"] (defScope st_law_step_form) := ⟨rfl, rfl, rfl, by decide +kernel, rfl, by decide +kernel, by decide +kernel⟩
abbrev st_law_step_line : Stmt := PySem.Challenge.pw_nevergone_k94_texts_of_programs_refused.main.body.getD 48 (.Pass ⟨0, 0, 0, 0⟩)
theorem sc_law_step_line : FnScope ["step", "part"] ["step"] (defScope st_law_step_line) := ⟨rfl, rfl, rfl, by decide +kernel, rfl, by decide +kernel, by decide +kernel⟩
abbrev st_law_line_wrong : Stmt := PySem.Challenge.pw_nevergone_k94_texts_of_programs_refused.main.body.getD 49 (.Pass ⟨0, 0, 0, 0⟩)
theorem sc_law_line_wrong : FnScope ["words", "bounds", "at", "most", "is_none"] ["words"] (defScope st_law_line_wrong) := ⟨rfl, rfl, rfl, by decide +kernel, rfl, by decide +kernel, by decide +kernel⟩
abbrev st_law_bent : Stmt := PySem.Challenge.pw_nevergone_k94_texts_of_programs_refused.main.body.getD 50 (.Pass ⟨0, 0, 0, 0⟩)
theorem sc_law_bent : FnScope ["pen", "lines", "line", "words", "way", "at", "word", "bent"] ["pen", "lines"] (defScope st_law_bent) := ⟨rfl, rfl, rfl, by decide +kernel, rfl, by decide +kernel, by decide +kernel⟩
section
variable {A : Ads} {P : Program} {w : World} {K : PySem.W.Frag} {mg : Str → Option Value} {base : Heap} (B : Blt mg) (T : Tx A P w K mg)
include B T
theorem wk_is_step {k : Nat} {sp : Sp} {sp_is_listed : Sp} {sp_is_plain_tuple : Sp} {sp_is_within : Sp} (c_is_listed : Cal P w K mg base CX0 k "is_listed" ["value"] sp_is_listed) (c_is_plain_tuple : Cal P w K mg base CX0 k "is_plain_tuple" ["value", "many"] sp_is_plain_tuple) (c_is_within : Cal P w K mg base CX0 k "is_within" ["value", "least", "most"] sp_is_within) {f : Addr} {fd : FuncData} (F : FnP K "is_step" "is_step" st_is_step f fd) (len : ∀ vs H Q E, sp vs H Q E → vs.length = 1) (ok : ∀ vs H Q E, sp vs H Q E → (t_is_step K A E sp_is_listed sp_is_plain_tuple sp_is_within) { nx := fun _ H' => Q .non H', rt := Q } (start ["value", "form", "sort", "part"] vs) H) : FnOk P w K mg base CX0 (k + 1) f fd ["value"] sp := by
  have nd := sc_is_step.nd
  refine F.ok sc_is_step len fun cdv A' outer s H vs Q E hr h => ⟨t_is_step K A E sp_is_listed sp_is_plain_tuple sp_is_within, PSs.nox ?_, ok vs H Q E h⟩
  exact (pss_cons (ps_if (PW.pt (pw_or (pt_not (pt_val (pe_cal c_is_listed hr pass0 (pa_cons (pv 0) pa_nil)))) (pw_or (pt_cmpR (op_eqD hr.units) (pe_len B (pv 0)) pe_int (nomark _)) (pw_or (pt_not (pt_val (pe_isi B (pe_ix ix_seq (pv 0) pe_int (fun _ _ => rfl)) B.str bt_str))) (pw_or1 (pt_cmpR (op_notIn_kd T.kFORMS) (pe_ix ix_seq (pv 0) pe_int (fun _ _ => rfl)) (pe_globR T.gFORMS) (by rfl))))))) (pss_one (ps_ret pe_bl)) pss_nil) (pss_cons (ps_set (i := 1) nd rfl (by first | exact Or.inl rfl | exact Or.inr rfl) (pe_kitem T.kFORMS (pe_globR T.gFORMS) (pe_ix ix_seq (pv 0) pe_int (fun _ _ => rfl)) (fun _ _ => rfl))) (pss_cons (ps_if (pt_not (pt_val (pe_cal c_is_plain_tuple hr pass0 (pa_cons (pv 0) (pa_cons (pe_op op_add (pe_len B (pv 1)) pe_int) pa_nil))))) (pss_one (ps_ret pe_bl)) pss_nil) (pss_cons (ps_if (pt_not (pt_val (pe_all B rfl (pe_lc (own := [("sort", 2), ("part", 3)]) (g := (gTup K 2 (gCons (gName 2) (gCons (gName 3) gNil)))) (tt := tYes) rfl nd (pi_zipS (by rfl) B.zip (pa_cons (pv 1) (pa_cons (pe_slice sl_seq (pv 0) (po_some pe_int) po_none) pa_nil))) (blkOk_by (N := ["value", "form", "sort", "part"]) (sc := defScope st_is_step) (by decide +kernel)) (fun _ _ _ _ _ => (pg_tup rfl (pgs_cons (pg_name (i := 2) nd rfl (by first | exact Or.inl rfl | exact Or.inr rfl)) (pgs_cons (pg_name (i := 3) nd rfl (by first | exact Or.inl rfl | exact Or.inr rfl)) pgs_nil)))) (fun _ _ _ _ _ => pts_nil) (fun _ _ _ _ _ => (pe_or (pe_and (pe_cmpR (op_eqD hr.units) (pv 2) pe_str (nomark _)) (pe_one (pe_cmpR op_isN (pv 3) pe_non (nomark _)))) (pe_one (pe_cal c_is_within hr pass0 (pa_cons (pv 3) (pa_cons pe_int (pa_cons (pe_kitem T.kMOST (pe_globR T.gMOST) (pv 2) (fun _ _ => rfl)) pa_nil))))))))))) (pss_one (ps_ret pe_bl)) pss_nil) (pss_one (ps_ret (pe_or (pe_cmpR (op_neD hr.units) (pe_ix ix_seq (pv 0) pe_int (fun _ _ => rfl)) pe_str (nomark _)) (pe_one (pe_cmpR (op_neD hr.units) (pe_ix ix_seq (pv 0) pe_int (fun _ _ => rfl)) (pe_ix ix_seq (pv 0) pe_int (fun _ _ => rfl)) (nomark _))))))))))
theorem wk_need_steps {k : Nat} {sp : Sp} {sp_is_listed : Sp} {sp_is_step : Sp} {sp_fixed : Sp} (c_is_listed : Cal P w K mg base CX0 k "is_listed" ["value"] sp_is_listed) (c_is_step : Cal P w K mg base CX0 k "is_step" ["value"] sp_is_step) (c_fixed : Cal P w K mg base CX0 k "fixed" ["value"] sp_fixed) {f : Addr} {fd : FuncData} (F : FnP K "need_steps" "need_steps" st_need_steps f fd) (len : ∀ vs H Q E, sp vs H Q E → vs.length = 1) (ok : ∀ vs H Q E, sp vs H Q E → (t_need_steps K A E sp_is_listed sp_is_step sp_fixed) { nx := fun _ H' => Q .non H', rt := Q } (start ["program", "at", "value"] vs) H) : FnOk P w K mg base (L2.CX P w) (k + 1) f fd ["program"] sp := by
  have nd := sc_need_steps.nd
  refine F.ok sc_need_steps len fun cdv A' outer s H vs Q E hr h => ⟨t_need_steps K A E sp_is_listed sp_is_step sp_fixed, ?_, ok vs H Q E h⟩
  exact (pss_cons (ps_if (pt_not (pt_val (pe_cal c_is_listed hr pass0 (pa_cons (pv 0) pa_nil)))) (pss_one (ps_raiseX rfl T.xBadProgram hr (takes_of rfl rfl rfl rfl) (pa_cons (pe_un un_neg pe_int) pa_nil))) pss_nil) (pss_cons (ps_for (passes_of rfl) rfl (pi_enumS (by rfl) B.enumerate (pa_cons (pv 0) pa_nil)) (pg_tup rfl (pgs_cons (pg_name (i := 1) nd rfl (by first | exact Or.inl rfl | exact Or.inr rfl)) (pgs_cons (pg_name (i := 2) nd rfl (by first | exact Or.inl rfl | exact Or.inr rfl)) pgs_nil))) (pss_one (ps_if (pt_not (pt_val (pe_cal c_is_step hr pass0 (pa_cons (pv 2) pa_nil)))) (pss_one (ps_raiseX rfl T.xBadProgram hr (takes_of rfl rfl rfl rfl) (pa_cons (pv 1) pa_nil))) pss_nil))) (pss_one (ps_ret (pe_cal c_fixed hr pass0 (pa_cons (pv 0) pa_nil))))))
theorem wk_step_words {k : Nat} {sp : Sp}  {f : Addr} {fd : FuncData} (F : FnP K "step_words" "step_words" st_step_words f fd) (len : ∀ vs H Q E, sp vs H Q E → vs.length = 1) (ok : ∀ vs H Q E, sp vs H Q E → (t_step_words K A E) { nx := fun _ H' => Q .non H', rt := Q } (start ["step", "part"] vs) H) : FnOk P w K mg base CX0 (k + 1) f fd ["step"] sp := by
  have nd := sc_step_words.nd
  refine F.ok sc_step_words len fun cdv A' outer s H vs Q E hr h => ⟨t_step_words K A E, PSs.nox ?_, ok vs H Q E h⟩
  exact (pss_one (ps_ret (pe_lst (pa_cons (pe_ix ix_seq (pv 0) pe_int (fun _ _ => rfl)) (pa_star (pe_lc (own := [("part", 1)]) (g := (gName 1)) (tt := tYes) rfl nd (pi_seq (pe_slice sl_seq (pv 0) (po_some pe_int) po_none)) (blkOk_by (N := ["step", "part"]) (sc := defScope st_step_words) (by decide +kernel)) (fun _ _ _ _ _ => (pg_name (i := 1) nd rfl (by first | exact Or.inl rfl | exact Or.inr rfl))) (fun _ _ _ _ _ => pts_nil) (fun _ _ _ _ _ => (pe_ifExp (pt_cmpR op_isN (pv 1) pe_non (nomark _)) (pe_globS T.gNONE) (pe_strI B (pv 1))))) pa_nil)))))
theorem wk_step_text {k : Nat} {sp : Sp} {sp_step_words : Sp} (c_step_words : Cal P w K mg base CX0 k "step_words" ["step"] sp_step_words) {f : Addr} {fd : FuncData} (F : FnP K "step_text" "step_text" st_step_text f fd) (len : ∀ vs H Q E, sp vs H Q E → vs.length = 1) (ok : ∀ vs H Q E, sp vs H Q E → (t_step_text K A E sp_step_words) { nx := fun _ H' => Q .non H', rt := Q } (start ["step"] vs) H) : FnOk P w K mg base CX0 (k + 1) f fd ["step"] sp := by
  have nd := sc_step_text.nd
  refine F.ok sc_step_text len fun cdv A' outer s H vs Q E hr h => ⟨t_step_text K A E sp_step_words, PSs.nox ?_, ok vs H Q E h⟩
  exact (pss_one (ps_ret (pe_join pe_str (pe_cal c_step_words hr pass0 (pa_cons (pv 0) pa_nil)))))
theorem wk_program_text {k : Nat} {sp : Sp} {sp_need_steps : Sp} {sp_step_text : Sp} (c_need_steps : Cal P w K mg base (L2.CX P w) k "need_steps" ["program"] sp_need_steps) (c_step_text : Cal P w K mg base CX0 k "step_text" ["step"] sp_step_text) {f : Addr} {fd : FuncData} (F : FnP K "program_text" "program_text" st_program_text f fd) (len : ∀ vs H Q E, sp vs H Q E → vs.length = 1) (ok : ∀ vs H Q E, sp vs H Q E → (t_program_text K A E sp_need_steps sp_step_text) { nx := fun _ H' => Q .non H', rt := Q } (start ["program", "told", "step"] vs) H) : FnOk P w K mg base (L2.CX P w) (k + 1) f fd ["program"] sp := by
  have nd := sc_program_text.nd
  refine F.ok sc_program_text len fun cdv A' outer s H vs Q E hr h => ⟨t_program_text K A E sp_need_steps sp_step_text, ?_, ok vs H Q E h⟩
  exact (pss_cons (ps_set (i := 1) nd rfl (by first | exact Or.inl rfl | exact Or.inr rfl) (pe_cal c_need_steps hr (passE (takes_of rfl rfl rfl rfl) fun _ _ _ _ h => h) (pa_cons (pv 0) pa_nil))) (pss_one (ps_ret (pe_ifExp (pt_cmpR op_gt (pe_len B (pv 1)) pe_int (nomark _)) (pe_join pe_str (pe_lc (own := [("step", 2)]) (g := (gName 2)) (tt := tYes) rfl nd (pi_seq (pv 1)) (blkOk_by (N := ["program", "told", "step"]) (sc := defScope st_program_text) (by decide +kernel)) (fun _ _ _ _ _ => (pg_name (i := 2) nd rfl (by first | exact Or.inl rfl | exact Or.inr rfl))) (fun _ _ _ _ _ => pts_nil) (fun _ _ _ _ _ => (pe_cal c_step_text hr pass0 (pa_cons (pv 2) pa_nil))))) (pe_globS T.gNONE)))))
theorem wk_taken_step {k : Nat} {sp : Sp} {sp_Scan_take_of : Sp} {sp_Scan_ahead : Sp} {sp_Scan_stop : Sp} {sp_Scan_take_number : Sp} (c_Scan_take_of : Met P w K mg base (L2.CX P w) k A.cScan "take_of" ["self", "words"] sp_Scan_take_of) (c_Scan_ahead : Met P w K mg base CX0 k A.cScan "ahead" ["self"] sp_Scan_ahead) (c_Scan_stop : Met P w K mg base (L2.CX P w) k A.cScan "stop" ["self"] sp_Scan_stop) (c_Scan_take_number : Met P w K mg base (L2.CX P w) k A.cScan "take_number" ["self", "least", "most"] sp_Scan_take_number) {f : Addr} {fd : FuncData} (F : FnP K "taken_step" "taken_step" st_taken_step f fd) (len : ∀ vs H Q E, sp vs H Q E → vs.length = 1) (ok : ∀ vs H Q E, sp vs H Q E → (t_taken_step K A E sp_Scan_take_of sp_Scan_ahead sp_Scan_stop sp_Scan_take_number) { nx := fun _ H' => Q .non H', rt := Q } (start ["scan", "found", "sort"] vs) H) : FnOk P w K mg base (L2.CX P w) (k + 1) f fd ["scan"] sp := by
  have nd := sc_taken_step.nd
  refine F.ok sc_taken_step len fun cdv A' outer s H vs Q E hr h => ⟨t_taken_step K A E sp_Scan_take_of sp_Scan_ahead sp_Scan_stop sp_Scan_take_number, ?_, ok vs H Q E h⟩
  exact (pss_cons (ps_set (i := 1) nd rfl (by first | exact Or.inl rfl | exact Or.inr rfl) (pe_lst (pa_cons (pe_met c_Scan_take_of T.clScan hr (passE (takes_of rfl rfl rfl rfl) fun _ _ _ _ h => h) (pv 0) (pa_cons (pe_klist B rfl T.kFORMS T.ksFORMS T.knFORMS T.kzFORMS (pe_globR T.gFORMS)) pa_nil)) pa_nil))) (pss_cons (ps_for (passes_of rfl) rfl (pi_seq (pe_kitem T.kFORMS (pe_globR T.gFORMS) (pe_ix ix_seq (pv 1) pe_int (fun _ _ => rfl)) (fun _ _ => rfl))) (pg_name (i := 2) nd rfl (by first | exact Or.inl rfl | exact Or.inr rfl)) (pss_one (ps_if (PW.pt (pw_and (pt_cmpR (op_eqD hr.units) (pv 2) pe_str (nomark _)) (pw_and1 (pt_cmpR (op_eqD hr.units) (pe_met0 c_Scan_ahead T.clScan hr pass0 (pv 0)) (pe_globS T.gNONE) (nomark _))))) (pss_cons (ps_expr (pe_met c_Scan_take_of T.clScan hr (passE (takes_of rfl rfl rfl rfl) fun _ _ _ _ h => h) (pv 0) (pa_cons (pe_tup (pa_cons (pe_globS T.gNONE) pa_nil)) pa_nil))) (pss_one (ps_expr (pe_bm PySem.F.plainAttrs_list PySem.F.slot_list_append PySem.F.type_list_append mt_append (pv 1) (pa_cons pe_non pa_nil))))) (pss_cons (ps_if (PW.pt (pw_and (pt_cmpR (op_eqD hr.units) (pe_ix ix_seq (pv 1) pe_int (fun _ _ => rfl)) pe_str (nomark _)) (pw_and (pt_cmpR (op_eqD hr.units) (pe_len B (pv 1)) pe_int (nomark _)) (pw_and1 (pt_cmpR (op_eqD hr.units) (pe_met0 c_Scan_ahead T.clScan hr pass0 (pv 0)) (pe_strI B (pe_ix ix_seq (pv 1) pe_int (fun _ _ => rfl))) (nomark _)))))) (pss_one (ps_expr (pe_met0 c_Scan_stop T.clScan hr (passE (takes_of rfl rfl rfl rfl) fun _ _ _ _ h => h) (pv 0)))) pss_nil) (pss_one (ps_expr (pe_bm PySem.F.plainAttrs_list PySem.F.slot_list_append PySem.F.type_list_append mt_append (pv 1) (pa_cons (pe_met c_Scan_take_number T.clScan hr (passE (takes_of rfl rfl rfl rfl) fun _ _ _ _ h => h) (pv 0) (pa_cons pe_int (pa_cons (pe_kitem T.kMOST (pe_globR T.gMOST) (pv 2) (fun _ _ => rfl)) pa_nil))) pa_nil)))))))) (pss_one (ps_ret (pe_tupOf B (pv 1))))))
theorem wk_read_program {k : Nat} {sp : Sp} {sp_scan_of : Sp} {sp_Scan_is_over : Sp} {sp_taken_step : Sp} {sp_Scan_end_line : Sp} (c_scan_of : Cal P w K mg base (L2.CX P w) k "scan_of" ["text"] sp_scan_of) (c_Scan_is_over : Met P w K mg base CX0 k A.cScan "is_over" ["self"] sp_Scan_is_over) (c_taken_step : Cal P w K mg base (L2.CX P w) k "taken_step" ["scan"] sp_taken_step) (c_Scan_end_line : Met P w K mg base (L2.CX P w) k A.cScan "end_line" ["self"] sp_Scan_end_line) {f : Addr} {fd : FuncData} (F : FnP K "read_program" "read_program" st_read_program f fd) (len : ∀ vs H Q E, sp vs H Q E → vs.length = 1) (ok : ∀ vs H Q E, sp vs H Q E → (t_read_program K A E sp_scan_of sp_Scan_is_over sp_taken_step sp_Scan_end_line) { nx := fun _ H' => Q .non H', rt := Q } (start ["text", "scan", "found"] vs) H) : FnOk P w K mg base (L2.CX P w) (k + 1) f fd ["text"] sp := by
  have nd := sc_read_program.nd
  refine F.ok sc_read_program len fun cdv A' outer s H vs Q E hr h => ⟨t_read_program K A E sp_scan_of sp_Scan_is_over sp_taken_step sp_Scan_end_line, ?_, ok vs H Q E h⟩
  exact (pss_cons (ps_if (PW.pt (pw_and (pt_val (pe_isi B (pv 0) B.str bt_str)) (pw_and1 (pt_cmpR (op_eqD hr.units) (pv 0) (pe_globS T.gNONE) (nomark _))))) (pss_one (ps_ret (pe_tup pa_nil))) pss_nil) (pss_cons (ps_par (i := 1) (j := 2) (by rfl) nd rfl rfl (by decide) rfl rfl (pa_cons (pe_cal c_scan_of hr (passE (takes_of rfl rfl rfl rfl) fun _ _ _ _ h => h) (pa_cons (pv 0) pa_nil)) (pa_cons (pe_lst pa_nil) pa_nil)) (by rfl)) (pss_cons (ps_while (passes_of rfl) (pt_not (pt_val (pe_met0 c_Scan_is_over T.clScan hr pass0 (pv 1)))) (pss_cons (ps_expr (pe_bm PySem.F.plainAttrs_list PySem.F.slot_list_append PySem.F.type_list_append mt_append (pv 2) (pa_cons (pe_cal c_taken_step hr (passE (takes_of rfl rfl rfl rfl) fun _ _ _ _ h => h) (pa_cons (pv 1) pa_nil)) pa_nil))) (pss_one (ps_expr (pe_met0 c_Scan_end_line T.clScan hr (passE (takes_of rfl rfl rfl rfl) fun _ _ _ _ h => h) (pv 1)))))) (pss_one (ps_ret (pe_tupOf B (pv 2)))))))
theorem wk_law_pen {k : Nat} {sp : Sp}  {f : Addr} {fd : FuncData} (F : FnP K "_law_pen" "_law_pen" st_law_pen f fd) (len : ∀ vs H Q E, sp vs H Q E → vs.length = 1) (ok : ∀ vs H Q E, sp vs H Q E → (t_law_pen K A E) { nx := fun _ H' => Q .non H', rt := Q } (start ["script", "cell"] vs) H) : FnOk P w K mg base CX0 (k + 1) f fd ["script"] sp := by
  have nd := sc_law_pen.nd
  refine F.ok sc_law_pen len fun cdv A' outer s H vs Q E hr h => ⟨t_law_pen K A E, PSs.nox ?_, ok vs H Q E h⟩
  exact (pss_one (ps_ret (pe_disp (pps_cons pe_str (pe_slice sl_seq (pe_lc (own := [("cell", 1)]) (g := (gName 1)) (tt := tYes) rfl nd (pi_seq (pv 0)) (blkOk_by (N := ["script", "cell"]) (sc := defScope st_law_pen) (by decide +kernel)) (fun _ _ _ _ _ => (pg_name (i := 1) nd rfl (by first | exact Or.inl rfl | exact Or.inr rfl))) (fun _ _ _ _ _ => pts_nil) (fun _ _ _ _ _ => (pv 1))) po_none (po_some pe_int)) (pps_cons pe_str pe_int (pps_cons pe_str pe_int pps_nil))) (by rfl) (by rfl) (fun z => by cases z) (by decide))))
theorem wk_law_draw {k : Nat} {sp : Sp}  {f : Addr} {fd : FuncData} (F : FnP K "_law_draw" "_law_draw" st_law_draw f fd) (len : ∀ vs H Q E, sp vs H Q E → vs.length = 2) (ok : ∀ vs H Q E, sp vs H Q E → (t_law_draw K A E) { nx := fun _ H' => Q .non H', rt := Q } (start ["pen", "most", "great", "at", "row", "cell", "number", "mixed"] vs) H) : FnOk P w K mg base CX0 (k + 1) f fd ["pen", "most"] sp := by
  have nd := sc_law_draw.nd
  refine F.ok sc_law_draw len fun cdv A' outer s H vs Q E hr h => ⟨t_law_draw K A E, PSs.nox ?_, ok vs H Q E h⟩
  exact (pss_cons (ps_if (pt_cmpR op_gt (pe_dget (hu_of hr) (pv 0) pe_str (fun _ _ => rfl)) pe_int (nomark _)) (pss_cons (ps_set (i := 2) nd rfl (by first | exact Or.inl rfl | exact Or.inr rfl) (pe_intI B (pe_dget (hu_of hr) (pv 0) pe_str (fun _ _ => rfl)))) (pss_cons (ps_dput (hu_of hr) (pv 0) pe_str (pe_op op_fdivN (pv 2) (pv 1)) rfl) (pss_one (ps_ret (pe_op op_modN (pe_intI B (pv 2)) (pv 1)))))) pss_nil) (pss_cons (ps_par (i := 3) (j := 4) (by rfl) nd rfl rfl (by decide) rfl rfl (pa_cons (pe_dget (hu_of hr) (pv 0) pe_str (fun _ _ => rfl)) (pa_cons (pe_dget (hu_of hr) (pv 0) pe_str (fun _ _ => rfl)) pa_nil)) (by rfl)) (pss_cons (ps_dput (hu_of hr) (pv 0) pe_str (pe_op op_add (pv 3) pe_int) rfl) (pss_cons (ps_set (i := 5) nd rfl (by first | exact Or.inl rfl | exact Or.inr rfl) (pe_op op_add (pe_op op_mul pe_int (pv 3)) pe_int)) (pss_cons (ps_if (pt_cmpR (op_neD hr.units) (pv 4) (pe_lst pa_nil) (nomark _)) (pss_one (ps_set (i := 5) nd rfl (by first | exact Or.inl rfl | exact Or.inr rfl) (pe_ix ix_seq (pv 4) (pe_op op_modN (pe_intI B (pv 3)) (pe_len B (pv 4))) (fun _ _ => rfl)))) pss_nil) (pss_cons (ps_set (i := 6) nd rfl (by first | exact Or.inl rfl | exact Or.inr rfl) (pe_ifExp (PW.pt (pw_and (pt_val (pe_isi B (pv 5) B.int bt_int)) (pw_and1 (pt_not (pt_val (pe_isi B (pv 5) B.bool bt_bool)))))) (pv 5) pe_int)) (pss_cons (ps_if (PW.pt (pw_and (pt_cmpR op_lt (pv 3) (pe_len B (pv 4)) (nomark _)) (pw_and1 (pt_cmpR op_ge (pe_abs B (pv 6)) (pe_op op_pow pe_int pe_int) (nomark _))))) (pss_cons (ps_set (i := 2) nd rfl (by first | exact Or.inl rfl | exact Or.inr rfl) (pe_op op_add (pe_op op_mul pe_int (pe_op op_sub (pe_abs B (pv 6)) (pe_op op_pow pe_int pe_int))) (pe_intI B (pe_cmpR op_lt (pv 6) pe_int (nomark _))))) (pss_cons (ps_dput (hu_of hr) (pv 0) pe_str (pe_op op_fdivN (pe_intI B (pv 2)) (pv 1)) rfl) (pss_one (ps_ret (pe_op op_modN (pe_intI B (pv 2)) (pv 1)))))) pss_nil) (pss_cons (ps_set (i := 7) nd rfl (by first | exact Or.inl rfl | exact Or.inr rfl) (pe_op op_modN (pe_intI B (pe_op op_pow (pe_op op_add (pe_op op_add (pe_op op_modN (pe_intI B (pv 6)) pe_int) (pe_op op_mul pe_int (pv 3))) pe_int) pe_int)) pe_int)) (pss_cons (ps_set (i := 7) nd rfl (by first | exact Or.inl rfl | exact Or.inr rfl) (pe_op op_modN (pe_intI B (pe_op op_pow (pe_op op_add (pe_op op_add (pe_op op_mul (pv 7) (pe_op op_add (pe_op op_mul pe_int (pv 3)) pe_int)) (pe_op op_mul (pe_op op_mul pe_int (pv 3)) (pv 3))) pe_int) pe_int)) pe_int)) (pss_one (ps_ret (pe_op op_modN (pe_intI B (pe_op op_fdivN (pv 7) pe_int)) (pv 1)))))))))))))
theorem wk_law_pick {k : Nat} {sp : Sp} {sp_law_draw : Sp} (c_law_draw : Cal P w K mg base CX0 k "_law_draw" ["pen", "most"] sp_law_draw) {f : Addr} {fd : FuncData} (F : FnP K "_law_pick" "_law_pick" st_law_pick f fd) (len : ∀ vs H Q E, sp vs H Q E → vs.length = 2) (ok : ∀ vs H Q E, sp vs H Q E → (t_law_pick K A E sp_law_draw) { nx := fun _ H' => Q .non H', rt := Q } (start ["pen", "some"] vs) H) : FnOk P w K mg base CX0 (k + 1) f fd ["pen", "some"] sp := by
  have nd := sc_law_pick.nd
  refine F.ok sc_law_pick len fun cdv A' outer s H vs Q E hr h => ⟨t_law_pick K A E sp_law_draw, PSs.nox ?_, ok vs H Q E h⟩
  exact (pss_one (ps_ret (pe_ix ix_seq (pv 1) (pe_cal c_law_draw hr pass0 (pa_cons (pv 0) (pa_cons (pe_len B (pv 1)) pa_nil))) (fun _ _ => rfl))))
theorem wk_law_figure {k : Nat} {sp : Sp}  {f : Addr} {fd : FuncData} (F : FnP K "_law_figure" "_law_figure" st_law_figure f fd) (len : ∀ vs H Q E, sp vs H Q E → vs.length = 3) (ok : ∀ vs H Q E, sp vs H Q E → (t_law_figure K A E) { nx := fun _ H' => Q .non H', rt := Q } (start ["word", "low", "high", "number"] vs) H) : FnOk P w K mg base CX0 (k + 1) f fd ["word", "low", "high"] sp := by
  have nd := sc_law_figure.nd
  refine F.ok sc_law_figure len fun cdv A' outer s H vs Q E hr h => ⟨t_law_figure K A E, PSs.nox ?_, ok vs H Q E h⟩
  exact (pss_one (ps_ret (pe_cmpR op_in_seq (pv 0) (pe_lc (own := [("number", 3)]) (g := (gName 3)) (tt := tYes) rfl nd (pi_range2 (by rfl) B.range (pa_cons (pv 1) (pa_cons (pe_op op_add (pv 2) pe_int) pa_nil))) (blkOk_by (N := ["word", "low", "high", "number"]) (sc := defScope st_law_figure) (by decide +kernel)) (fun _ _ _ _ _ => (pg_name (i := 3) nd rfl (by first | exact Or.inl rfl | exact Or.inr rfl))) (fun _ _ _ _ _ => pts_nil) (fun _ _ _ _ _ => (pe_strI B (pv 3)))) (by rfl))))
theorem wk_law_step_form {k : Nat} {sp : Sp}  {f : Addr} {fd : FuncData} (F : FnP K "_law_step_form" "_law_step_form" st_law_step_form f fd) (len : ∀ vs H Q E, sp vs H Q E → vs.length = 1) (ok : ∀ vs H Q E, sp vs H Q E → (t_law_step_form K A E) { nx := fun _ H' => Q .non H', rt := Q } (start ["value", "bounds", "at", "part", "most", "is_none"] vs) H) : FnOk P w K mg base CX0 (k + 1) f fd ["value"] sp := by
  have nd := sc_law_step_form.nd
  refine F.ok sc_law_step_form len fun cdv A' outer s H vs Q E hr h => ⟨t_law_step_form K A E, PSs.nox ?_, ok vs H Q E h⟩
  exact (pss_cons (ps_if (PW.pt (pw_or (pt_not (pt_val (pe_isiLT B (pv 0)))) (pw_or (pt_cmpR (op_eqD hr.units) (pe_len B (pv 0)) pe_int (nomark _)) (pw_or1 (pt_not (pt_val (pe_isi B (pe_ix ix_seq (pv 0) pe_int (fun _ _ => rfl)) B.str bt_str))))))) (pss_one (ps_ret pe_bl)) pss_nil) (pss_cons (ps_set (i := 1) nd rfl (by first | exact Or.inl rfl | exact Or.inr rfl) (pe_dget1 (hu_of hr) (pe_disp (pps_cons pe_str (pe_lst (pa_cons pe_int (pa_cons pe_int pa_nil))) (pps_cons pe_str (pe_lst (pa_cons pe_int (pa_cons pe_int (pa_cons pe_int pa_nil)))) (pps_cons pe_str (pe_lst (pa_cons pe_int (pa_cons pe_int (pa_cons pe_int pa_nil)))) (pps_cons pe_str (pe_lst (pa_cons pe_int (pa_cons pe_int pa_nil))) (pps_cons pe_str (pe_lst (pa_cons pe_int pa_nil)) (pps_cons pe_str (pe_lst pa_nil) pps_nil)))))) (by rfl) (by rfl) (fun z => by cases z) (by decide)) (pe_ix ix_seq (pv 0) pe_int (fun _ _ => rfl)) m1_of)) (pss_cons (ps_if (PW.pt (pw_or (pt_cmpR op_isN (pv 1) pe_non (nomark _)) (pw_or1 (pt_cmpR (op_neD hr.units) (pe_len B (pv 0)) (pe_op op_add (pe_len B (pv 1)) pe_int) (nomark _))))) (pss_one (ps_ret pe_bl)) pss_nil) (pss_cons (ps_for PassesOwn.never rfl (pi_ezipS (by rfl) B.zip (by rfl) B.enumerate (pa_cons (pe_slice sl_seq (pv 0) (po_some pe_int) po_none) (pa_cons (pv 1) pa_nil))) (pg_tup rfl (pgs_cons (pg_name (i := 2) nd rfl (by first | exact Or.inl rfl | exact Or.inr rfl)) (pgs_cons (pg_tup rfl (pgs_cons (pg_name (i := 3) nd rfl (by first | exact Or.inl rfl | exact Or.inr rfl)) (pgs_cons (pg_name (i := 4) nd rfl (by first | exact Or.inl rfl | exact Or.inr rfl)) pgs_nil))) pgs_nil))) (pss_cons (ps_set (i := 5) nd rfl (by first | exact Or.inl rfl | exact Or.inr rfl) (pe_and (pe_cmpR op_isN (pv 3) pe_non (nomark _)) (pe_and (pe_cmpR (op_eqD hr.units) (pe_ix ix_seq (pv 0) pe_int (fun _ _ => rfl)) pe_str (nomark _)) (pe_one (pe_cmpR (op_eqD hr.units) (pv 2) pe_int (nomark _)))))) (pss_one (ps_if (PW.pt (pw_and (pt_not (pt_val (pv 5))) (pw_and1 (PW.pt (pw_or (pt_not (pt_val (pe_isi B (pv 3) B.int bt_int))) (pw_or (pt_val (pe_isi B (pv 3) B.bool bt_bool)) (pw_or1 (pt_not (pt_chain op_le op_lt pe_int (pv 3) (pv 4)))))))))) (pss_one (ps_ret pe_bl)) pss_nil)))) (pss_one (ps_ret (pe_or (pe_cmpR (op_neD hr.units) (pe_ix ix_seq (pv 0) pe_int (fun _ _ => rfl)) pe_str (nomark _)) (pe_one (pe_cmpR (op_neD hr.units) (pe_ix ix_seq (pv 0) pe_int (fun _ _ => rfl)) (pe_ix ix_seq (pv 0) pe_int (fun _ _ => rfl)) (nomark _))))))))))
theorem wk_law_step_line {k : Nat} {sp : Sp}  {f : Addr} {fd : FuncData} (F : FnP K "_law_step_line" "_law_step_line" st_law_step_line f fd) (len : ∀ vs H Q E, sp vs H Q E → vs.length = 1) (ok : ∀ vs H Q E, sp vs H Q E → (t_law_step_line K A E) { nx := fun _ H' => Q .non H', rt := Q } (start ["step", "part"] vs) H) : FnOk P w K mg base CX0 (k + 1) f fd ["step"] sp := by
  have nd := sc_law_step_line.nd
  refine F.ok sc_law_step_line len fun cdv A' outer s H vs Q E hr h => ⟨t_law_step_line K A E, PSs.nox ?_, ok vs H Q E h⟩
  exact (pss_one (ps_ret (pe_join pe_str (pe_op op_cat (pe_lst (pa_cons (pe_ix ix_seq (pv 0) pe_int (fun _ _ => rfl)) pa_nil)) (pe_lc (own := [("part", 1)]) (g := (gName 1)) (tt := tYes) rfl nd (pi_seq (pe_slice sl_seq (pv 0) (po_some pe_int) po_none)) (blkOk_by (N := ["step", "part"]) (sc := defScope st_law_step_line) (by decide +kernel)) (fun _ _ _ _ _ => (pg_name (i := 1) nd rfl (by first | exact Or.inl rfl | exact Or.inr rfl))) (fun _ _ _ _ _ => pts_nil) (fun _ _ _ _ _ => (pe_ifExp (pt_cmpR op_isN (pv 1) pe_non (nomark _)) pe_str (pe_strI B (pv 1)))))))))
theorem wk_law_line_wrong {k : Nat} {sp : Sp} {sp_law_figure : Sp} (c_law_figure : Cal P w K mg base CX0 k "_law_figure" ["word", "low", "high"] sp_law_figure) {f : Addr} {fd : FuncData} (F : FnP K "_law_line_wrong" "_law_line_wrong" st_law_line_wrong f fd) (len : ∀ vs H Q E, sp vs H Q E → vs.length = 1) (ok : ∀ vs H Q E, sp vs H Q E → (t_law_line_wrong K A E sp_law_figure) { nx := fun _ H' => Q .non H', rt := Q } (start ["words", "bounds", "at", "most", "is_none"] vs) H) : FnOk P w K mg base CX0 (k + 1) f fd ["words"] sp := by
  have nd := sc_law_line_wrong.nd
  refine F.ok sc_law_line_wrong len fun cdv A' outer s H vs Q E hr h => ⟨t_law_line_wrong K A E sp_law_figure, PSs.nox ?_, ok vs H Q E h⟩
  exact (pss_cons (ps_set (i := 1) nd rfl (by first | exact Or.inl rfl | exact Or.inr rfl) (pe_dget1 (hu_of hr) (pe_disp (pps_cons pe_str (pe_lst (pa_cons pe_int (pa_cons pe_int pa_nil))) (pps_cons pe_str (pe_lst (pa_cons pe_int (pa_cons pe_int (pa_cons pe_int pa_nil)))) (pps_cons pe_str (pe_lst (pa_cons pe_int (pa_cons pe_int (pa_cons pe_int pa_nil)))) (pps_cons pe_str (pe_lst (pa_cons pe_int (pa_cons pe_int pa_nil))) (pps_cons pe_str (pe_lst (pa_cons pe_int pa_nil)) (pps_cons pe_str (pe_lst pa_nil) pps_nil)))))) (by rfl) (by rfl) (fun z => by cases z) (by decide)) (pe_ix ix_seq (pv 0) pe_int (fun _ _ => rfl)) m1_of)) (pss_cons (ps_if (pt_cmpR op_isN (pv 1) pe_non (nomark _)) (pss_one (ps_ret pe_int)) pss_nil) (pss_cons (ps_for PassesOwn.never rfl (pi_enumS (by rfl) B.enumerate (pa_cons (pv 1) pa_nil)) (pg_tup rfl (pgs_cons (pg_name (i := 2) nd rfl (by first | exact Or.inl rfl | exact Or.inr rfl)) (pgs_cons (pg_name (i := 3) nd rfl (by first | exact Or.inl rfl | exact Or.inr rfl)) pgs_nil))) (pss_cons (ps_if (pt_cmpR op_ge (pe_op op_add (pv 2) pe_int) (pe_len B (pv 0)) (nomark _)) (pss_one (ps_ret (pe_op op_add (pv 2) pe_int))) pss_nil) (pss_cons (ps_set (i := 4) nd rfl (by first | exact Or.inl rfl | exact Or.inr rfl) (pe_and (pe_cmpR (op_eqD hr.units) (pe_ix ix_seq (pv 0) pe_int (fun _ _ => rfl)) pe_str (nomark _)) (pe_and (pe_cmpR (op_eqD hr.units) (pv 2) pe_int (nomark _)) (pe_one (pe_cmpR (op_eqD hr.units) (pe_ix ix_seq (pv 0) (pe_op op_add (pv 2) pe_int) (fun _ _ => rfl)) pe_str (nomark _)))))) (pss_one (ps_if (PW.pt (pw_or (PW.pt (pw_and (pt_not (pt_val (pv 4))) (pw_and1 (pt_not (pt_val (pe_cal c_law_figure hr pass0 (pa_cons (pe_ix ix_seq (pv 0) (pe_op op_add (pv 2) pe_int) (fun _ _ => rfl)) (pa_cons pe_int (pa_cons (pe_op op_sub (pv 3) pe_int) pa_nil))))))))) (pw_or1 (PW.pt (pw_and (pt_cmpR (op_eqD hr.units) (pe_ix ix_seq (pv 0) pe_int (fun _ _ => rfl)) pe_str (nomark _)) (pw_and (pt_cmpR (op_eqD hr.units) (pv 2) pe_int (nomark _)) (pw_and1 (pt_cmpR (op_eqD hr.units) (pe_ix ix_seq (pv 0) pe_int (fun _ _ => rfl)) (pe_ix ix_seq (pv 0) pe_int (fun _ _ => rfl)) (nomark _))))))))) (pss_one (ps_ret (pe_op op_add (pv 2) pe_int))) pss_nil))))) (pss_one (ps_ret (pe_ifExp (pt_cmpR op_gt (pe_len B (pv 0)) (pe_op op_add (pe_len B (pv 1)) pe_int) (nomark _)) (pe_op op_add (pe_len B (pv 1)) pe_int) pe_non))))))
theorem wk_law_bent {k : Nat} {sp : Sp} {sp_law_draw : Sp} {sp_law_pick : Sp} (c_law_draw : Cal P w K mg base CX0 k "_law_draw" ["pen", "most"] sp_law_draw) (c_law_pick : Cal P w K mg base CX0 k "_law_pick" ["pen", "some"] sp_law_pick) {f : Addr} {fd : FuncData} (F : FnP K "_law_bent" "_law_bent" st_law_bent f fd) (len : ∀ vs H Q E, sp vs H Q E → vs.length = 2) (ok : ∀ vs H Q E, sp vs H Q E → (t_law_bent K A E sp_law_draw sp_law_pick) { nx := fun _ H' => Q .non H', rt := Q } (start ["pen", "lines", "line", "words", "way", "at", "word", "bent"] vs) H) : FnOk P w K mg base CX0 (k + 1) f fd ["pen", "lines"] sp := by
  have nd := sc_law_bent.nd
  refine F.ok sc_law_bent len fun cdv A' outer s H vs Q E hr h => ⟨t_law_bent K A E sp_law_draw sp_law_pick, PSs.nox ?_, ok vs H Q E h⟩
  exact (pss_cons (ps_set (i := 2) nd rfl (by first | exact Or.inl rfl | exact Or.inr rfl) (pe_cal c_law_draw hr pass0 (pa_cons (pv 0) (pa_cons (pe_len B (pv 1)) pa_nil)))) (pss_cons (ps_par (i := 3) (j := 4) (by rfl) nd rfl rfl (by decide) rfl rfl (pa_cons (pe_ix ix_seq (pv 1) (pv 2) (fun _ _ => rfl)) (pa_cons (pe_cal c_law_draw hr pass0 (pa_cons (pv 0) (pa_cons pe_int pa_nil))) pa_nil)) (by rfl)) (pss_cons (ps_set (i := 5) nd rfl (by first | exact Or.inl rfl | exact Or.inr rfl) (pe_cal c_law_draw hr pass0 (pa_cons (pv 0) (pa_cons (pe_len B (pv 3)) pa_nil)))) (pss_cons (ps_set (i := 6) nd rfl (by first | exact Or.inl rfl | exact Or.inr rfl) (pe_cal c_law_pick hr pass0 (pa_cons (pv 0) (pa_cons (pe_lst (pa_cons pe_str (pa_cons pe_str (pa_cons pe_str (pa_cons pe_str (pa_cons pe_str (pa_cons pe_str (pa_cons pe_str (pa_cons pe_str (pa_cons pe_str (pa_cons pe_str (pa_cons pe_str (pa_cons pe_str (pa_cons pe_str (pa_cons pe_str (pa_cons pe_str (pa_cons pe_str (pa_cons pe_str (pa_cons pe_str (pa_cons pe_str (pa_cons pe_str (pa_cons pe_str pa_nil)))))))))))))))))))))) pa_nil)))) (pss_cons (ps_set (i := 6) nd rfl (by first | exact Or.inl rfl | exact Or.inr rfl) (pe_ifExp (pt_cmpR (op_neD hr.units) (pv 6) pe_str (nomark _)) (pv 6) pe_str)) (pss_cons (ps_if (pt_cmpR op_lt (pv 4) pe_int (nomark _)) (pss_cons (ps_set (i := 7) nd rfl (by first | exact Or.inl rfl | exact Or.inr rfl) (pe_ix ix_seq (pe_lst (pa_cons (pe_op op_cat (pe_slice sl_seq (pv 3) po_none (po_some (pv 5))) (pe_slice sl_seq (pv 3) (po_some (pe_op op_add (pv 5) pe_int)) po_none)) (pa_cons (pe_op op_cat (pe_op op_cat (pe_slice sl_seq (pv 3) po_none (po_some (pv 5))) (pe_lst (pa_cons (pv 6) pa_nil))) (pe_slice sl_seq (pv 3) (po_some (pv 5)) po_none)) (pa_cons (pe_op op_cat (pe_op op_cat (pe_slice sl_seq (pv 3) po_none (po_some (pv 5))) (pe_lst (pa_cons (pv 6) pa_nil))) (pe_slice sl_seq (pv 3) (po_some (pe_op op_add (pv 5) pe_int)) po_none)) (pa_cons (pe_op op_cat (pv 3) (pe_lst (pa_cons (pv 6) pa_nil))) pa_nil))))) (pv 4) (fun _ _ => rfl))) (pss_one (ps_ret (pe_op op_cat (pe_op op_cat (pe_slice sl_seq (pv 1) po_none (po_some (pv 2))) (pe_lst (pa_cons (pe_ifExp (pt_cmpR (op_neD hr.units) (pv 7) (pe_lst pa_nil) (nomark _)) (pv 7) (pe_lst (pa_cons pe_str pa_nil))) pa_nil))) (pe_slice sl_seq (pv 1) (po_some (pe_op op_add (pv 2) pe_int)) po_none))))) pss_nil) (pss_cons (ps_if (pt_cmpR (op_eqD hr.units) (pv 4) pe_int (nomark _)) (pss_one (ps_ret (pe_ifExp (pt_cmpR op_gt (pe_len B (pv 1)) pe_int (nomark _)) (pe_op op_cat (pe_slice sl_seq (pv 1) po_none (po_some (pv 2))) (pe_slice sl_seq (pv 1) (po_some (pe_op op_add (pv 2) pe_int)) po_none)) (pe_lst (pa_cons (pe_lst (pa_cons (pv 6) pa_nil)) pa_nil))))) pss_nil) (pss_cons (ps_if (pt_cmpR (op_eqD hr.units) (pv 4) pe_int (nomark _)) (pss_one (ps_ret (pe_op op_cat (pe_op op_cat (pe_slice sl_seq (pv 1) po_none (po_some (pv 2))) (pe_lst (pa_cons (pv 3) pa_nil))) (pe_slice sl_seq (pv 1) (po_some (pv 2)) po_none)))) pss_nil) (pss_cons (ps_if (pt_cmpR (op_eqD hr.units) (pv 4) pe_int (nomark _)) (pss_one (ps_ret (pe_op op_cat (pe_op op_cat (pe_slice sl_seq (pv 1) po_none (po_some (pv 2))) (pe_lst (pa_cons (pe_lst (pa_cons (pv 6) pa_nil)) pa_nil))) (pe_slice sl_seq (pv 1) (po_some (pv 2)) po_none)))) pss_nil) (pss_one (ps_ret (pe_op op_cat (pv 1) (pe_lst (pa_cons (pe_lst (pa_cons (pv 6) pa_nil)) pa_nil))))))))))))))
end
end Nv
set_option Elab.async false
set_option linter.all false
set_option maxRecDepth 100000
set_option maxHeartbeats 4000000
namespace Nv
open PySem PySem.Spec PyProof.Rows L2 StX NvZ
abbrev st_law_any_step : Stmt := PySem.Challenge.pw_nevergone_k94_texts_of_programs_refused.main.body.getD 47 (.Pass ⟨0, 0, 0, 0⟩)
theorem sc_law_any_step : FnScope ["pen", "word", "one", "other"] ["pen"] (defScope st_law_any_step) := ⟨rfl, rfl, rfl, by decide +kernel, rfl, by decide +kernel, by decide +kernel⟩
section
variable {A : Ads} {P : Program} {w : World} {K : PySem.W.Frag} {mg : Str → Option Value} {base : Heap} (B : Blt mg) (T : Tx A P w K mg)
include B T
theorem wk_law_any_step {k : Nat} {sp : Sp} {sp_law_draw : Sp} {sp_law_pick : Sp} (c_law_draw : Cal P w K mg base CX0 k "_law_draw" ["pen", "most"] sp_law_draw) (c_law_pick : Cal P w K mg base CX0 k "_law_pick" ["pen", "some"] sp_law_pick) {f : Addr} {fd : FuncData} (F : FnP K "_law_any_step" "_law_any_step" st_law_any_step f fd) (len : ∀ vs H Q E, sp vs H Q E → vs.length = 1) (ok : ∀ vs H Q E, sp vs H Q E → (t_law_any_step K A E sp_law_draw sp_law_pick) { nx := fun _ H' => Q .non H', rt := Q } (start ["pen", "word", "one", "other"] vs) H) : FnOk P w K mg base CX0 (k + 1) f fd ["pen"] sp := by
  have nd := sc_law_any_step.nd
  refine F.ok sc_law_any_step len fun cdv A' outer s H vs Q E hr h => ⟨t_law_any_step K A E sp_law_draw sp_law_pick, PSs.nox ?_, ok vs H Q E h⟩
  exact (pss_cons (ps_par3 (i := 1) (j := 2) (l := 3) (by rfl) nd rfl rfl rfl (by decide) (by decide) (by decide) rfl rfl rfl (pa_cons (pe_cal c_law_pick hr pass0 (pa_cons (pv 0) (pa_cons (pe_lst (pa_cons pe_str (pa_cons pe_str (pa_cons pe_str (pa_cons pe_str (pa_cons pe_str (pa_cons pe_str pa_nil))))))) pa_nil))) (pa_cons (pe_cal c_law_draw hr pass0 (pa_cons (pv 0) (pa_cons pe_int pa_nil))) (pa_cons (pe_cal c_law_draw hr pass0 (pa_cons (pv 0) (pa_cons pe_int pa_nil))) pa_nil))) (by rfl)) (pss_cons (ps_if (pt_cmpR (op_eqD hr.units) (pv 1) pe_str (nomark _)) (pss_one (ps_ret (pe_tup (pa_cons (pv 1) (pa_cons (pv 2) (pa_cons (pe_cal c_law_draw hr pass0 (pa_cons (pv 0) (pa_cons pe_int pa_nil))) pa_nil)))))) pss_nil) (pss_cons (ps_if (pt_cmpR (op_eqD hr.units) (pv 1) pe_str (nomark _)) (pss_one (ps_ret (pe_tup (pa_cons (pv 1) (pa_cons (pv 2) (pa_cons (pv 3) (pa_cons (pe_cal c_law_draw hr pass0 (pa_cons (pv 0) (pa_cons pe_int pa_nil))) pa_nil))))))) pss_nil) (pss_cons (ps_if (pt_cmpR (op_eqD hr.units) (pv 1) pe_str (nomark _)) (pss_one (ps_ret (pe_tup (pa_cons (pv 1) (pa_cons (pv 2) (pa_cons (pe_cal c_law_draw hr pass0 (pa_cons (pv 0) (pa_cons pe_int pa_nil))) (pa_cons (pe_cal c_law_pick hr pass0 (pa_cons (pv 0) (pa_cons (pe_lst (pa_cons pe_non (pa_cons (pv 3) (pa_cons (pv 3) pa_nil)))) pa_nil))) pa_nil))))))) pss_nil) (pss_cons (ps_if (pt_cmpR (op_eqD hr.units) (pv 1) pe_str (nomark _)) (pss_one (ps_ret (pe_tup (pa_cons (pv 1) (pa_cons (pv 2) (pa_cons (pe_ifExp (pt_cmpR (op_neD hr.units) (pv 3) (pv 2) (nomark _)) (pv 3) (pe_op op_modN (pe_op op_add (pv 2) pe_int) pe_int)) pa_nil)))))) pss_nil) (pss_one (ps_ret (pe_ifExp (pt_cmpR (op_eqD hr.units) (pv 1) pe_str (nomark _)) (pe_tup (pa_cons (pv 1) (pa_cons (pv 2) pa_nil))) (pe_tup (pa_cons (pv 1) pa_nil))))))))))
end
end Nv
set_option Elab.async false
set_option linter.all false
set_option maxRecDepth 100000
set_option maxHeartbeats 4000000
namespace Nv
open PySem PySem.Spec PyProof.Rows L2 StX NvZ LamX
abbrev st_law : Stmt := PySem.Challenge.pw_nevergone_k94_texts_of_programs_refused.main.body.getD 51 (.Pass ⟨0, 0, 0, 0⟩)
theorem sc_law : FnScope ["script", "pen", "turn", "program", "lines", "lap", "bent", "wrong", "text", "heard", "at", "step", "odd", "bad", "some", "due", "none", "line", "words", "spot", "one"] ["script"] (defScope st_law) := ⟨rfl, rfl, rfl, by decide +kernel, rfl, by decide +kernel, by decide +kernel⟩
section
variable {A : Ads} {P : Program} {w : World} {K : PySem.W.Frag} {mg : Str → Option Value} {base : Heap} (B : Blt mg) (T : Tx A P w K mg)
include B T
theorem ws_law {k : Nat} {f : Addr} {cdv : Value} {A' : Around} {outer : List Env} {s : Shared} {H : Hp} {T0 : List (Addr × Str)} {TT : (XK → Hp → VK → Prop) → Hp → VK → Prop} {sp_law_pen : Sp} {sp_law_draw : Sp} {sp_law_any_step : Sp} {sp_law_step_line : Sp} {sp_law_bent : Sp} {sp_law_line_wrong : Sp} {sp_read_program : Sp} {sp_program_text : Sp} {sp_law_step_form : Sp} {sp_law_pick : Sp} (c_law_pen : Cal P w K mg base CX0 k "_law_pen" ["script"] sp_law_pen) (c_law_draw : Cal P w K mg base CX0 k "_law_draw" ["pen", "most"] sp_law_draw) (c_law_any_step : Cal P w K mg base CX0 k "_law_any_step" ["pen"] sp_law_any_step) (c_law_step_line : Cal P w K mg base CX0 k "_law_step_line" ["step"] sp_law_step_line) (c_law_bent : Cal P w K mg base CX0 k "_law_bent" ["pen", "lines"] sp_law_bent) (c_law_line_wrong : Cal P w K mg base CX0 k "_law_line_wrong" ["words"] sp_law_line_wrong) (c_read_program : Cal P w K mg base (L2.CX P w) k "read_program" ["text"] sp_read_program) (c_program_text : Cal P w K mg base (L2.CX P w) k "program_text" ["program"] sp_program_text) (c_law_step_form : Cal P w K mg base CX0 k "_law_step_form" ["value"] sp_law_step_form) (c_law_pick : Cal P w K mg base CX0 k "_law_pick" ["pen", "some"] sp_law_pick)  (hr : Room k ((cxOf CX0 P w K mg base ["script", "pen", "turn", "program", "lines", "lap", "bent", "wrong", "text", "heard", "at", "step", "odd", "bad", "some", "due", "none", "line", "words", "spot", "one"] "law" (defScope st_law) f cdv A' outer s H E0).nox).A)
  (hL : ∀ {params : Arguments} {body : Expr} {scope : Scope} {t : XK → TE} {p lpos pos : Pos} {ks : List Int}, params.kw_defaults = [] → NvL.Dfl params.defaults ks → NvL.LamB params body scope ks → NvL.LamS3 ["script", "pen", "turn", "program", "lines", "lap", "bent", "wrong", "text", "heard", "at", "step", "odd", "bad", "some", "due", "none", "line", "words", "spot", "one"] (defScope st_law) scope → (∀ (A0 : Around) (o0 : List Env) (s0 : Shared) (H0 : Hp) (E : XK) (f0 c0 : Addr), Room k (A0.deeper (lamEnv (cxOf CX0 P w K mg base ["script", "pen", "turn", "program", "lines", "lap", "bent", "wrong", "text", "heard", "at", "step", "odd", "bad", "some", "due", "none", "line", "words", "spot", "one"] "law" (defScope st_law) f cdv A' outer s H E0).nox scope s0.heap.objs.size f0 c0)) → PE (lamCx (cxOf CX0 P w K mg base ["script", "pen", "turn", "program", "lines", "lap", "bent", "wrong", "text", "heard", "at", "step", "odd", "bad", "some", "due", "none", "line", "words", "spot", "one"] "law" (defScope st_law) f cdv A' outer s H E0).nox A0 o0 s0 H0 E scope f0 c0) body (t E)) → PE (cxOf CX0 P w K mg base ["script", "pen", "turn", "program", "lines", "lap", "bent", "wrong", "text", "heard", "at", "step", "odd", "bad", "some", "due", "none", "line", "words", "spot", "one"] "law" (defScope st_law) f cdv A' outer s H E0).nox (.Call (.Name "_law_heard" p) [.Lambda params body scope lpos] [] pos) (tLam T0 TT t)) : PSs (cxOf CX0 P w K mg base ["script", "pen", "turn", "program", "lines", "lap", "bent", "wrong", "text", "heard", "at", "step", "odd", "bad", "some", "due", "none", "line", "words", "spot", "one"] "law" (defScope st_law) f cdv A' outer s H E0).nox (defBody st_law) (t_law K A T0 TT sp_law_pen sp_law_draw sp_law_any_step sp_law_step_line sp_law_bent sp_law_line_wrong sp_read_program sp_program_text sp_law_step_form sp_law_pick) := by
  have nd := sc_law.nd
  exact (pss_cons (ps_set (i := 1) nd rfl (by first | exact Or.inl rfl | exact Or.inr rfl) (pe_cal c_law_pen hr pass0 (pa_cons (pv 0) pa_nil))) (pss_cons (ps_for PassesOwn.never rfl (pi_range1 (by rfl) B.range (pa_cons pe_int pa_nil)) (pg_name (i := 2) nd rfl (by first | exact Or.inl rfl | exact Or.inr rfl)) (pss_cons (ps_setLc (i := 3) (own := [("lap", 5)]) (g := (gName 5)) (tt := tYes) rfl nd rfl rfl (sw_true rfl rfl rfl (by decide +kernel)) (pi_range1 (by rfl) B.range (pa_cons (pe_op op_add pe_int (pe_cal c_law_draw hr pass0 (pa_cons (pv 1) (pa_cons pe_int pa_nil)))) pa_nil)) (blkOk_by (N := ["script", "pen", "turn", "program", "lines", "lap", "bent", "wrong", "text", "heard", "at", "step", "odd", "bad", "some", "due", "none", "line", "words", "spot", "one"]) (sc := defScope st_law) (by decide +kernel)) (fun _ _ _ _ _ => (pg_name (i := 5) nd rfl (by first | exact Or.inl rfl | exact Or.inr rfl))) (fun _ _ _ _ _ => pts_nil) (fun _ _ _ _ _ => (pe_cal c_law_any_step hr pass0 (pa_cons (pv 1) pa_nil)))) (pss_cons (ps_setLc (i := 4) (own := [("step", 11)]) (g := (gName 11)) (tt := tYes) rfl nd rfl rfl (sw_true rfl rfl rfl (by decide +kernel)) (pi_seq (pv 3)) (blkOk_by (N := ["script", "pen", "turn", "program", "lines", "lap", "bent", "wrong", "text", "heard", "at", "step", "odd", "bad", "some", "due", "none", "line", "words", "spot", "one"]) (sc := defScope st_law) (by decide +kernel)) (fun _ _ _ _ _ => (pg_name (i := 11) nd rfl (by first | exact Or.inl rfl | exact Or.inr rfl))) (fun _ _ _ _ _ => pts_nil) (fun _ _ _ _ _ => (pe_split (pe_cal c_law_step_line hr pass0 (pa_cons (pv 11) pa_nil)) pe_str))) (pss_cons (ps_for PassesOwn.never rfl (pi_range1 (by rfl) B.range (pa_cons pe_int pa_nil)) (pg_name (i := 5) nd rfl (by first | exact Or.inl rfl | exact Or.inr rfl)) (pss_cons (ps_set (i := 6) nd rfl (by first | exact Or.inl rfl | exact Or.inr rfl) (pe_cal c_law_bent hr pass0 (pa_cons (pv 1) (pa_cons (pv 4) pa_nil)))) (pss_cons (ps_set (i := 6) nd rfl (by first | exact Or.inl rfl | exact Or.inr rfl) (pe_ifExp (pt_cmpR (op_eqD hr.units) (pe_cal c_law_draw hr pass0 (pa_cons (pv 1) (pa_cons pe_int pa_nil))) pe_int (nomark _)) (pe_cal c_law_bent hr pass0 (pa_cons (pv 1) (pa_cons (pv 6) pa_nil))) (pv 6))) (pss_cons (ps_setLc (i := 7) (own := [("line", 17), ("words", 18)]) (g := (gTup K 2 (gCons (gName 17) (gCons (gName 18) gNil)))) (tt := (tTest (tOp rNotN (tCall sp_law_line_wrong [] E0 (tCons (tVar 18) tNil)) (tC .non)))) rfl nd rfl rfl (sw_true rfl rfl rfl (by decide +kernel)) (pi_enumS (by rfl) B.enumerate (pa_cons (pv 6) pa_nil)) (blkOk_by (N := ["script", "pen", "turn", "program", "lines", "lap", "bent", "wrong", "text", "heard", "at", "step", "odd", "bad", "some", "due", "none", "line", "words", "spot", "one"]) (sc := defScope st_law) (by decide +kernel)) (fun _ _ _ _ _ => (pg_tup rfl (pgs_cons (pg_name (i := 17) nd rfl (by first | exact Or.inl rfl | exact Or.inr rfl)) (pgs_cons (pg_name (i := 18) nd rfl (by first | exact Or.inl rfl | exact Or.inr rfl)) pgs_nil)))) (fun _ _ _ _ _ => (pts_one (pt_cmpR op_notN (pe_cal c_law_line_wrong hr pass0 (pa_cons (pv 18) pa_nil)) pe_non (nomark _)))) (fun _ _ _ _ _ => (pe_tup (pa_cons (pv 17) (pa_cons (pe_cal c_law_line_wrong hr pass0 (pa_cons (pv 18) pa_nil)) pa_nil))))) (pss_cons (ps_set (i := 8) nd rfl (by first | exact Or.inl rfl | exact Or.inr rfl) (pe_join pe_str (pe_lc (own := [("words", 18)]) (g := (gName 18)) (tt := tYes) rfl nd (pi_seq (pv 6)) (blkOk_by (N := ["script", "pen", "turn", "program", "lines", "lap", "bent", "wrong", "text", "heard", "at", "step", "odd", "bad", "some", "due", "none", "line", "words", "spot", "one"]) (sc := defScope st_law) (by decide +kernel)) (fun _ _ _ _ _ => (pg_name (i := 18) nd rfl (by first | exact Or.inl rfl | exact Or.inr rfl))) (fun _ _ _ _ _ => pts_nil) (fun _ _ _ _ _ => (pe_join pe_str (pv 18)))))) (pss_cons (ps_set (i := 9) nd rfl (by first | exact Or.inl rfl | exact Or.inr rfl) (hL (ks := []) rfl (by first | exact .nil | exact .one _ _ _) (by first | exact ⟨fun _ _ _ _ _ _ _ => (by rfl), fun _ z => (by cases z)⟩ | exact ⟨fun z => (by cases z), fun _ _ => ⟨"a1", (by rfl), fun _ _ _ _ _ _ _ => ⟨_, (by rfl), fun _ => (by rfl)⟩⟩⟩) (NvL.lamS3_by (by decide +kernel)) (fun A0 o0 s0 H0 E f0 c0 hr => (pe_cal c_read_program hr (passE (takes_of rfl rfl rfl rfl) fun _ _ _ _ h => h) (pa_cons (pv 8) pa_nil))))) (pss_one (ps_if (pt_cmpR (op_eqD hr.units) (pv 8) pe_str (nomark _)) (pss_one (ps_if (pt_cmpR (op_neD hr.units) (pv 9) (pe_lst (pa_cons (pe_tup pa_nil) pa_nil)) (nomark _)) (pss_one (ps_ret pe_bl)) pss_nil)) (pss_one (ps_if (pt_cmpR (op_neD hr.units) (pv 7) (pe_lst pa_nil) (nomark _)) (pss_one (ps_if (pt_cmpR (op_neD hr.units) (pv 9) (pe_tup (pa_cons pe_str (pa_cons (pe_ix ix_seq (pe_ix ix_seq (pv 7) pe_int (fun _ _ => rfl)) pe_int (fun _ _ => rfl)) (pa_cons (pe_ix ix_seq (pe_ix ix_seq (pv 7) pe_int (fun _ _ => rfl)) pe_int (fun _ _ => rfl)) pa_nil)))) (nomark _)) (pss_one (ps_ret pe_bl)) pss_nil)) (pss_one (ps_if (PW.pt (pw_or (pt_not (pt_val (pe_isi B (pv 9) B.list bt_list))) (pw_or (pt_cmpR (op_neD hr.units) (pe_cal c_program_text hr (passE LamX.takes0 fun _ _ _ _ h => h) (pa_cons (pe_ix ix_seq (pv 9) pe_int (fun _ _ => rfl)) pa_nil)) (pv 8) (nomark _)) (pw_or1 (pt_cmpR (op_neD hr.units) (pe_lc (own := [("step", 11)]) (g := (gName 11)) (tt := (tNot (tB (tCall sp_law_step_form [] E0 (tCons (tVar 11) tNil))))) rfl nd (pi_seq (pe_ix ix_seq (pv 9) pe_int (fun _ _ => rfl))) (blkOk_by (N := ["script", "pen", "turn", "program", "lines", "lap", "bent", "wrong", "text", "heard", "at", "step", "odd", "bad", "some", "due", "none", "line", "words", "spot", "one"]) (sc := defScope st_law) (by decide +kernel)) (fun _ _ _ _ _ => (pg_name (i := 11) nd rfl (by first | exact Or.inl rfl | exact Or.inr rfl))) (fun _ _ _ _ _ => (pts_one (pt_not (pt_val (pe_cal c_law_step_form hr pass0 (pa_cons (pv 11) pa_nil)))))) (fun _ _ _ _ _ => (pv 11))) (pe_lst pa_nil) (nomark _)))))) (pss_one (ps_ret pe_bl)) pss_nil)))))))))))) (pss_cons (ps_par (i := 10) (j := 11) (by rfl) nd rfl rfl (by decide) rfl rfl (pa_cons (pe_cal c_law_draw hr pass0 (pa_cons (pv 1) (pa_cons (pe_len B (pv 3)) pa_nil))) (pa_cons (pe_cal c_law_any_step hr pass0 (pa_cons (pv 1) pa_nil)) pa_nil)) (by rfl)) (pss_cons (ps_set (i := 12) nd rfl (by first | exact Or.inl rfl | exact Or.inr rfl) (pe_lst (pa_cons pe_non (pa_cons pe_int (pa_cons pe_str (pa_cons (pe_tup pa_nil) (pa_cons (pe_op op_catA (pv 11) (pe_tup (pa_cons pe_int pa_nil))) (pa_cons (pe_op op_catA (pe_slice sl_seq (pv 11) po_none (po_some (pe_un un_neg pe_int))) (pe_tup (pa_cons pe_bl pa_nil))) (pa_cons (pe_tup (pa_cons pe_str (pa_cons pe_int pa_nil))) (pa_cons (pe_tup (pa_cons pe_str (pa_cons pe_int (pa_cons pe_int pa_nil)))) (pa_cons (pe_tup (pa_cons pe_str (pa_cons pe_int (pa_cons pe_int pa_nil)))) (pa_cons (pe_tup (pa_cons pe_str (pa_cons pe_non (pa_cons pe_int (pa_cons pe_int pa_nil))))) pa_nil)))))))))))) (pss_cons (ps_set (i := 13) nd rfl (by first | exact Or.inl rfl | exact Or.inr rfl) (pe_cal c_law_pick hr pass0 (pa_cons (pv 1) (pa_cons (pe_op op_cat (pv 12) (pe_lst (pa_cons (pe_tup (pa_cons pe_str (pa_cons pe_non pa_nil))) (pa_cons pe_dnewK (pa_cons (pe_lst (pa_cons (pe_listOf B (pv 11)) pa_nil)) (pa_cons (pe_tup (pa_cons pe_str (pa_cons pe_int (pa_cons pe_int (pa_cons pe_int pa_nil))))) pa_nil)))))) pa_nil)))) (pss_cons (ps_set (i := 14) nd rfl (by first | exact Or.inl rfl | exact Or.inr rfl) (pe_op op_cat (pe_op op_cat (pe_slice sl_seq (pv 3) po_none (po_some (pv 10))) (pe_lst (pa_cons (pv 13) pa_nil))) (pe_slice sl_seq (pv 3) (po_some (pv 10)) po_none))) (pss_cons (ps_setLc (i := 15) (own := [("spot", 19), ("one", 20)]) (g := (gTup K 2 (gCons (gName 19) (gCons (gName 20) gNil)))) (tt := (tNot (tB (tCall sp_law_step_form [] E0 (tCons (tVar 20) tNil))))) rfl nd rfl rfl (sw_true rfl rfl rfl (by decide +kernel)) (pi_enumS (by rfl) B.enumerate (pa_cons (pv 14) pa_nil)) (blkOk_by (N := ["script", "pen", "turn", "program", "lines", "lap", "bent", "wrong", "text", "heard", "at", "step", "odd", "bad", "some", "due", "none", "line", "words", "spot", "one"]) (sc := defScope st_law) (by decide +kernel)) (fun _ _ _ _ _ => (pg_tup rfl (pgs_cons (pg_name (i := 19) nd rfl (by first | exact Or.inl rfl | exact Or.inr rfl)) (pgs_cons (pg_name (i := 20) nd rfl (by first | exact Or.inl rfl | exact Or.inr rfl)) pgs_nil)))) (fun _ _ _ _ _ => (pts_one (pt_not (pt_val (pe_cal c_law_step_form hr pass0 (pa_cons (pv 20) pa_nil)))))) (fun _ _ _ _ _ => (pv 19))) (pss_cons (ps_if (pt_cmpR (op_neD hr.units) (hL (ks := []) rfl (by first | exact .nil | exact .one _ _ _) (by first | exact ⟨fun _ _ _ _ _ _ _ => (by rfl), fun _ z => (by cases z)⟩ | exact ⟨fun z => (by cases z), fun _ _ => ⟨"a1", (by rfl), fun _ _ _ _ _ _ _ => ⟨_, (by rfl), fun _ => (by rfl)⟩⟩⟩) (NvL.lamS3_by (by decide +kernel)) (fun A0 o0 s0 H0 E f0 c0 hr => (pe_cal c_program_text hr (passE (takes_of rfl rfl rfl rfl) fun _ _ _ _ h => h) (pa_cons (pv 14) pa_nil)))) (pe_ifExp (pt_cmpR (op_neD hr.units) (pv 15) (pe_lst pa_nil) (nomark _)) (pe_tup (pa_cons pe_str (pa_cons (pe_ix ix_seq (pv 15) pe_int (fun _ _ => rfl)) pa_nil))) (pe_lst (pa_cons (pe_cal c_program_text hr (passE LamX.takes0 fun _ _ _ _ h => h) (pa_cons (pv 14) pa_nil)) pa_nil))) (nomark _)) (pss_one (ps_ret pe_bl)) pss_nil) (pss_cons (ps_set (i := 16) nd rfl (by first | exact Or.inl rfl | exact Or.inr rfl) (pe_cal c_law_pick hr pass0 (pa_cons (pv 1) (pa_cons (pe_lst (pa_cons pe_non (pa_cons pe_int (pa_cons pe_str (pa_cons pe_dnewK (pa_cons pe_bl pa_nil)))))) pa_nil)))) (pss_cons (ps_set (i := 8) nd rfl (by first | exact Or.inl rfl | exact Or.inr rfl) (pe_join pe_str (pe_lc (own := [("words", 18)]) (g := (gName 18)) (tt := tYes) rfl nd (pi_seq (pv 4)) (blkOk_by (N := ["script", "pen", "turn", "program", "lines", "lap", "bent", "wrong", "text", "heard", "at", "step", "odd", "bad", "some", "due", "none", "line", "words", "spot", "one"]) (sc := defScope st_law) (by decide +kernel)) (fun _ _ _ _ _ => (pg_name (i := 18) nd rfl (by first | exact Or.inl rfl | exact Or.inr rfl))) (fun _ _ _ _ _ => pts_nil) (fun _ _ _ _ _ => (pe_join pe_str (pv 18)))))) (pss_cons (ps_set (i := 9) nd rfl (by first | exact Or.inl rfl | exact Or.inr rfl) (pe_lst (pa_cons (hL (ks := []) rfl (by first | exact .nil | exact .one _ _ _) (by first | exact ⟨fun _ _ _ _ _ _ _ => (by rfl), fun _ z => (by cases z)⟩ | exact ⟨fun z => (by cases z), fun _ _ => ⟨"a1", (by rfl), fun _ _ _ _ _ _ _ => ⟨_, (by rfl), fun _ => (by rfl)⟩⟩⟩) (NvL.lamS3_by (by decide +kernel)) (fun A0 o0 s0 H0 E f0 c0 hr => (pe_cal c_program_text hr (passE (takes_of rfl rfl rfl rfl) fun _ _ _ _ h => h) (pa_cons (pv 16) pa_nil)))) (pa_cons (hL (ks := [0]) rfl (by first | exact .nil | exact .one _ _ _) (by first | exact ⟨fun _ _ _ _ _ _ _ => (by rfl), fun _ z => (by cases z)⟩ | exact ⟨fun z => (by cases z), fun _ _ => ⟨"a1", (by rfl), fun _ _ _ _ _ _ _ => ⟨_, (by rfl), fun _ => (by rfl)⟩⟩⟩) (NvL.lamS3_by (by decide +kernel)) (fun A0 o0 s0 H0 E f0 c0 hr => (pe_cal c_read_program hr (passE (takes_of rfl rfl rfl rfl) fun _ _ _ _ h => h) (pa_cons (pe_ifExp (pt_cmpR (op_neE hr.units) (pv 16) pe_str (nomark _)) (pv 16) pe_int) pa_nil)))) pa_nil)))) (pss_cons (ps_set (i := 9) nd rfl (by first | exact Or.inl rfl | exact Or.inr rfl) (pe_op op_cat (pv 9) (pe_lst (pa_cons (hL (ks := []) rfl (by first | exact .nil | exact .one _ _ _) (by first | exact ⟨fun _ _ _ _ _ _ _ => (by rfl), fun _ z => (by cases z)⟩ | exact ⟨fun z => (by cases z), fun _ _ => ⟨"a1", (by rfl), fun _ _ _ _ _ _ _ => ⟨_, (by rfl), fun _ => (by rfl)⟩⟩⟩) (NvL.lamS3_by (by decide +kernel)) (fun A0 o0 s0 H0 E f0 c0 hr => (pe_cal c_read_program hr (passE (takes_of rfl rfl rfl rfl) fun _ _ _ _ h => h) (pa_cons (pe_op op_add_str (pv 8) pe_str) pa_nil)))) (pa_cons (hL (ks := [0]) rfl (by first | exact .nil | exact .one _ _ _) (by first | exact ⟨fun _ _ _ _ _ _ _ => (by rfl), fun _ z => (by cases z)⟩ | exact ⟨fun z => (by cases z), fun _ _ => ⟨"a1", (by rfl), fun _ _ _ _ _ _ _ => ⟨_, (by rfl), fun _ => (by rfl)⟩⟩⟩) (NvL.lamS3_by (by decide +kernel)) (fun A0 o0 s0 H0 E f0 c0 hr => (pe_cal c_read_program hr (passE (takes_of rfl rfl rfl rfl) fun _ _ _ _ h => h) (pa_cons pe_str pa_nil)))) pa_nil))))) (pss_one (ps_if (pt_cmpR (op_neD hr.units) (pv 9) (pe_lst (pa_cons (pe_tup (pa_cons pe_str (pa_cons (pe_un un_neg pe_int) pa_nil))) (pa_cons (pe_tup (pa_cons pe_str (pa_cons pe_int (pa_cons pe_int pa_nil)))) (pa_cons (pe_tup (pa_cons pe_str (pa_cons (pe_len B (pv 4)) (pa_cons pe_int pa_nil)))) (pa_cons (pe_tup (pa_cons pe_str (pa_cons pe_int (pa_cons pe_int pa_nil)))) pa_nil))))) (nomark _)) (pss_one (ps_ret pe_bl)) pss_nil)))))))))))))))) (pss_one (ps_ret (pe_cmpR (op_eqD hr.units) (pe_lst (pa_cons (hL (ks := []) rfl (by first | exact .nil | exact .one _ _ _) (by first | exact ⟨fun _ _ _ _ _ _ _ => (by rfl), fun _ z => (by cases z)⟩ | exact ⟨fun z => (by cases z), fun _ _ => ⟨"a1", (by rfl), fun _ _ _ _ _ _ _ => ⟨_, (by rfl), fun _ => (by rfl)⟩⟩⟩) (NvL.lamS3_by (by decide +kernel)) (fun A0 o0 s0 H0 E f0 c0 hr => (pe_cal c_read_program hr (passE (takes_of rfl rfl rfl rfl) fun _ _ _ _ h => h) (pa_cons pe_str pa_nil)))) (pa_cons (hL (ks := [0]) rfl (by first | exact .nil | exact .one _ _ _) (by first | exact ⟨fun _ _ _ _ _ _ _ => (by rfl), fun _ z => (by cases z)⟩ | exact ⟨fun z => (by cases z), fun _ _ => ⟨"a1", (by rfl), fun _ _ _ _ _ _ _ => ⟨_, (by rfl), fun _ => (by rfl)⟩⟩⟩) (NvL.lamS3_by (by decide +kernel)) (fun A0 o0 s0 H0 E f0 c0 hr => (pe_cal c_read_program hr (passE (takes_of rfl rfl rfl rfl) fun _ _ _ _ h => h) (pa_cons pe_str pa_nil)))) pa_nil))) (pe_lst (pa_cons (pe_tup (pa_cons pe_str (pa_cons pe_int (pa_cons pe_int pa_nil)))) (pa_cons (pe_tup (pa_cons pe_str (pa_cons pe_int (pa_cons pe_int pa_nil)))) pa_nil))) (nomark _))))))
end
end Nv
set_option Elab.async false
set_option linter.all false
set_option maxRecDepth 100000
set_option maxHeartbeats 4000000
/-! Promises: numbers, lists, fixed, figures. -/
namespace Nv
open PySem PySem.Spec PyProof.Rows L2 StX NvZ
def isI : D → Bool
  | .int _ => true
  | _ => false
def withinD (d : D) (lo hi : Int) : Bool := match d with
  | .int i => decide (lo ≤ i) && decide (i ≤ hi)
  | _ => false
section
variable {K : PySem.W.Frag} {A : Ads} {S : Addr → Prop} {σ : L2.St} {H : Hp} {E : XK}
/-- the first of one, of two, of three -/
def at1 (f : D → D) : List D → D
  | [d] => f d
  | _ => .non
def at2 (f : D → D → D) : List D → D
  | [d, e] => f d e
  | _ => .non
def at3 (f : D → D → D → D) : List D → D
  | [d, e, g] => f d e g
  | _ => .non
def in1 (p : D → Prop) : List D → Prop := fun ds => ∃ d, ds = [d] ∧ p d
def in2 (p : D → D → Prop) : List D → Prop := fun ds => ∃ d e, ds = [d, e] ∧ p d e
def in3 (p : D → D → D → Prop) : List D → Prop := fun ds => ∃ d e g, ds = [d, e, g] ∧ p d e g
theorem RpA.one {vs : List V} {d : D} (r : RpA K S H vs [d]) : ∃ v, vs = [v] ∧ Rp K S H v d := by
  cases r with
  | cons r rn => cases rn; exact ⟨_, rfl, r⟩
theorem RpA.two {vs : List V} {d e : D} (r : RpA K S H vs [d, e]) : ∃ v u, vs = [v, u] ∧ Rp K S H v d ∧ Rp K S H u e := by
  cases r with
  | cons r rn => obtain ⟨u, rfl, q⟩ := rn.one; exact ⟨_, u, rfl, r, q⟩
theorem RpA.three {vs : List V} {d e g : D} (r : RpA K S H vs [d, e, g]) : ∃ v u t, vs = [v, u, t] ∧ Rp K S H v d ∧ Rp K S H u e ∧ Rp K S H t g := by
  cases r with
  | cons r rn => obtain ⟨u, t, rfl, q⟩ := rn.two; exact ⟨_, u, t, rfl, r, q⟩
theorem filt_t {α : Type} (l : List α) : l.filter (fun _ => true) = l := List.filter_eq_self.mpr fun _ _ => rfl
theorem gn_mono {i : Nat} : ∀ (x : V) (σ : L2.St) (H : Hp) (Q Q' : L2.St → Hp → Prop), (∀ σ2 H2, Q σ2 H2 → Q' σ2 H2) → gName i x σ H Q → gName i x σ H Q' := fun _ _ _ _ _ h q => h _ _ q
/-- [te for name in wi] -/
theorem ev_map {wi : TI} {i : Nat} {te : TE} {ds : List D} {f : D → D} (m : Mem S H) (hi : EvI K S wi σ H ds) (hl : ds.length ≤ 100000)
    (hb : ∀ S' H', Mem S' H' → Up K S H S' H' → Ex H H' → ∀ x d, d ∈ ds → Rp K S' H' x d → wipe ((wipe σ [i]).set i (some x)) [i] = wipe σ [i] ∧ EvD K S' te ((wipe σ [i]).set i (some x)) H' (f d)) :
    EvD K S (tLc wi (gName i) tYes te [i]) σ H (.lst (ds.map f)) := by
  have h := ev_lc (p := fun _ => true) (f := f) (g := gName i) (tt := tYes) m hi hl (fun S' H' m' up ex x d hd rx => ⟨Evl.Ex.refl _, (hb S' H' m' up ex x d hd rx).1, fun H1 _ Q q => q H1 (Evl.Ex.refl _), fun _ => (hb S' H' m' up ex x d hd rx).2⟩) gn_mono
  rwa [filt_t] at h
/-- [te for name in wi if t] -/
theorem ev_filter {wi : TI} {i : Nat} {tt : TT} {te : TE} {ds : List D} {p : D → Bool} {f : D → D} (m : Mem S H) (hi : EvI K S wi σ H ds) (hl : ds.length ≤ 100000)
    (hb : ∀ S' H', Mem S' H' → Up K S H S' H' → Ex H H' → ∀ x d, d ∈ ds → Rp K S' H' x d → wipe ((wipe σ [i]).set i (some x)) [i] = wipe σ [i] ∧ EvB tt ((wipe σ [i]).set i (some x)) H' (p d) ∧ (p d = true → EvD K S' te ((wipe σ [i]).set i (some x)) H' (f d))) :
    EvD K S (tLc wi (gName i) tt te [i]) σ H (.lst ((ds.filter p).map f)) := ev_lc m hi hl (fun S' H' m' up ex x d hd rx => ⟨Evl.Ex.refl _, hb S' H' m' up ex x d hd rx⟩) gn_mono
/-! ### is_integer, is_within -/
abbrev spInteger (K : PySem.W.Frag) : Sp := Pure K 1 (in1 fun d => d.base = true) (at1 fun d => .bl (isI d))
theorem pr_integer (vs : List V) (H : Hp) (Q : VK) (E : XK) (h : spInteger K vs H Q E) : t_is_integer K A E { nx := fun _ H' => Q .non H', rt := Q } (start ["value"] vs) H := pure_of h fun S ds hn m r hp => by
  obtain ⟨d, rfl, hb⟩ := hp
  obtain ⟨v, rfl, r1⟩ := r.one
  refine (es_ret (ev_and (r_isi (ev_var m rfl r1) (okT_base hb) (ki_int hb)) fun _ => ev_not (r_isi (ev_var m rfl r1) (okT_base hb) (ki_bool hb)))).is ?_
  cases d <;> rfl
abbrev spWithin (K : PySem.W.Frag) : Sp := Pure K 3 (in3 fun d e g => d.base = true ∧ isI e = true ∧ isI g = true) (at3 fun d e g => match e, g with
  | .int lo, .int hi => .bl (withinD d lo hi)
  | _, _ => .non)
theorem pr_within (vs : List V) (H : Hp) (Q : VK) (E : XK) (h : spWithin K vs H Q E) : t_is_within K A E (spInteger K) { nx := fun _ H' => Q .non H', rt := Q } (start ["value", "least", "most"] vs) H := pure_of h fun S ds hn m r hp => by
  obtain ⟨d, e, g, rfl, hb, he, hg⟩ := hp
  obtain ⟨v, u, t, rfl, r1, r2, r3⟩ := r.three
  cases e with
  | int lo =>
    cases g with
    | int hi =>
      refine (es_ret (ev_and (ev_pure m (ea_cons m (ev_var m rfl r1) ea_nil) rfl ⟨d, rfl, hb⟩) (b := match d with | .int i => decide (lo ≤ i) && decide (i ≤ hi) | _ => false) fun hI => ?_)).is ?_
      · cases d with
        | int i => exact ev_chain m (ev_var m rfl r2) (ev_var m rfl r1) r_le (fun _ => ev_var m rfl r3) fun _ => r_le
        | _ => cases hI
      · cases d <;> rfl
    | _ => cases hg
  | _ => cases he
/-! ### lists -/
abbrev spListed (K : PySem.W.Frag) : Sp := Pure K 1 (in1 fun d => d.base = true) (at1 fun d => .bl d.isLT)
theorem pr_listed (vs : List V) (H : Hp) (Q : VK) (E : XK) (h : spListed K vs H Q E) : t_is_listed K A E { nx := fun _ H' => Q .non H', rt := Q } (start ["value"] vs) H := pure_of h fun S ds hn m r hp => by
  obtain ⟨d, rfl, hb⟩ := hp
  obtain ⟨v, rfl, r1⟩ := r.one
  exact es_ret (r_isiLT m (ev_var m rfl r1) (okT_base hb) (ki_LT hb))
abbrev spPlainTuple (K : PySem.W.Frag) : Sp := Pure K 2 (in2 fun d e => d.base = true ∧ isI e = true) (at2 fun d e => match e with
  | .int n => .bl (d.isLT && decide ((lenD d : Int) = n))
  | _ => .non)
theorem eqD_int (i j : Int) : eqD (.int i) (.int j) = decide (i = j) := by
  show (i == j) = _
  rw [Bool.beq_eq_decide_eq]
theorem pr_plain (vs : List V) (H : Hp) (Q : VK) (E : XK) (h : spPlainTuple K vs H Q E) : t_is_plain_tuple K A E (spListed K) { nx := fun _ H' => Q .non H', rt := Q } (start ["value", "many"] vs) H := pure_of h fun S ds hn m r hp => by
  obtain ⟨d, e, rfl, hb, he⟩ := hp
  obtain ⟨v, u, rfl, r1, r2⟩ := r.two
  cases e with
  | int n =>
    refine (es_ret (ev_and (ev_pure m (ea_cons m (ev_var m rfl r1) ea_nil) rfl ⟨d, rfl, hb⟩) (b := eqD (.int (lenD d)) (.int n)) fun hI => ?_)).is ?_
    · exact ev_op m (ev_cb (ea_cons m (ev_var m rfl r1) ea_nil) (ra_len (by cases d <;> first | rfl | cases hI))) (ev_var m rfl r2) (r_eqD rfl rfl (Nat.zero_le _) (Nat.zero_le _))
    · rw [eqD_int]; rfl
  | _ => cases he
/-! ### fixed -/
mutual
def fixD : D → D
  | .lst ds => .tup (fixA ds)
  | .tup ds => .tup (fixA ds)
  | d => d
def fixA : List D → List D
  | [] => []
  | d :: ds => fixD d :: fixA ds
end
theorem fixA_map : ∀ ds, fixA ds = ds.map fixD
  | [] => rfl
  | d :: ds => by rw [fixA, List.map_cons, fixA_map ds]
mutual
/-- bases all through, of lists that are not long -/
def okF : D → Bool
  | .lst ds => decide (ds.length ≤ 100000) && okFA ds
  | .tup ds => decide (ds.length ≤ 100000) && okFA ds
  | .ins _ => false
  | _ => true
def okFA : List D → Bool
  | [] => true
  | d :: ds => okF d && okFA ds
end
theorem okFA_all : ∀ {ds : List D}, okFA ds = true → ∀ d ∈ ds, okF d = true
  | d :: ds, h, e, he => by
    have h' : okF d = true ∧ okFA ds = true := by simpa [okFA] using h
    rcases List.mem_cons.mp he with z | z
    · rw [z]; exact h'.1
    · exact okFA_all h'.2 e z
theorem depA_le : ∀ {ds : List D} {n : Nat}, depA ds ≤ n → ∀ d ∈ ds, dep d ≤ n
  | d :: ds, n, h, e, he => by
    have h' : dep d ≤ n ∧ depA ds ≤ n := by simpa [depA, Nat.max_le] using h
    rcases List.mem_cons.mp he with z | z
    · rw [z]; exact h'.1
    · exact depA_le h'.2 e z
abbrev spFixed (K : PySem.W.Frag) (n : Nat) : Sp := Pure K 1 (in1 fun d => okF d = true ∧ dep d < n) (at1 fixD)
theorem okF_base {d : D} (h : okF d = true) : d.base = true := by cases d <;> first | rfl | cases h
theorem pr_fixed (n : Nat) (vs : List V) (H : Hp) (Q : VK) (E : XK) (h : spFixed K (n + 1) vs H Q E) : t_fixed K A E (spFixed K n) { nx := fun _ H' => Q .non H', rt := Q } (start ["value", "part"] vs) H := pure_of h fun S ds hn m r hp => by
  obtain ⟨d, rfl, ho, hd⟩ := hp
  obtain ⟨v, rfl, r1⟩ := r.one
  have hb := okF_base ho
  refine es_ifret (eb_B (r_isiLT m (ev_var m rfl r1) (okT_base hb) (ki_LT hb))) (fun hL => ?_) (fun hL => ?_)
  · have fin : ∀ es : List D, items d = es → fixD d = .tup (es.map fixD) → okFA es = true → es.length ≤ 100000 → depA es < n → EvS K S (tRet (tCB (rTupOf K) (tCons (tLc (iSeq K (tVar 0)) (gName 1) tYes (tCall (spFixed K n) [] E0 (tCons (tVar 1) tNil)) [1]) tNil))) (start ["value", "part"] [v]) H (fixD d) := fun es e1 e2 ok hl hdep => by
      rw [e2]
      refine es_ret (ev_cb (ea_cons m ((ev_map (f := fixD) m (ei_seq m (ev_var m rfl r1) (by cases d <;> first | rfl | cases hL)) (by rw [e1]; exact hl) fun S' H' m' up ex x e he rx => ?_).is (by rw [e1])) ea_nil) (ra_tup m))
      rw [e1] at he
      exact ⟨rfl, ev_pure m' (ea_cons m' (ev_var m' rfl rx) ea_nil) rfl ⟨e, rfl, okFA_all ok e he, Nat.lt_of_le_of_lt (depA_le (Nat.le_refl _) e he) hdep⟩⟩
    cases d with
    | lst es =>
      have ho' : es.length ≤ 100000 ∧ okFA es = true := by simpa [okF] using ho
      have hd' : depA es + 1 < n + 1 := hd
      exact fin es rfl (by rw [fixD, fixA_map]) ho'.2 ho'.1 (by omega)
    | tup es =>
      have ho' : es.length ≤ 100000 ∧ okFA es = true := by simpa [okF] using ho
      have hd' : depA es + 1 < n + 1 := hd
      exact fin es rfl (by rw [fixD, fixA_map]) ho'.2 ho'.1 (by omega)
    | _ => cases hL
  · refine (es_ret (ev_var m rfl r1)).is ?_
    cases d <;> first | rfl | cases hL
end
end Nv
set_option Elab.async false
set_option linter.all false
set_option maxRecDepth 100000
set_option maxHeartbeats 4000000
/-! Promises: figures. -/
namespace Nv
open PySem PySem.Spec PyProof.Rows L2 StX NvZ
def figs : Str := "0123456789"
def digits (w : Str) : Bool := (w.cps.toList.map fun c => decide (c ∈ figs.cps.toList)).all id
def num (w : Str) : Int := (PySem.intText? w).getD 0
/-- a word that may be read -/
def wdB (w : Str) : Bool := PyData.strOk w && decide (w.length ≤ 100) && (!digits w || (decide (w.length = 0) || (PySem.intText? w).isSome))
def head0 (w : Str) : Str := ⟨#[w.cps.getD 0 0]⟩
def figB (w : Str) (lo hi : Int) : Bool :=
  if (!(decide ((1 : Int) ≤ w.length) && decide ((w.length : Int) ≤ 9)) || !digits w) = true then false
  else (decide (w = "0") || !decide (head0 w = "0")) && (decide (lo ≤ num w) && decide (num w ≤ hi))
def wordD : D → Bool
  | .non => true
  | .str w => wdB w
  | _ => false
def figD : D → Int → Int → Bool
  | .str w, lo, hi => figB w lo hi
  | _, _, _ => false
section
variable {K : PySem.W.Frag} {A : Ads} {S : Addr → Prop} {σ : L2.St} {H : Hp} {E : XK}
theorem eqD_str (a b : Str) : eqD (.str a) (.str b) = decide (a = b) := by
  show (a == b) = _
  rw [Bool.beq_eq_decide_eq]
abbrev spFigure (K : PySem.W.Frag) : Sp := Pure K 3 (in3 fun d e g => wordD d = true ∧ isI e = true ∧ isI g = true) (at3 fun d e g => match e, g with
  | .int lo, .int hi => .bl (figD d lo hi)
  | _, _ => .non)
theorem pr_figure (vs : List V) (H : Hp) (Q : VK) (E : XK) (h : spFigure K vs H Q E) : t_is_figure K A E { nx := fun _ H' => Q .non H', rt := Q } (start ["word", "least", "most", "sign"] vs) H := pure_of h fun S ds hn m r hp => by
  obtain ⟨d, e, g, rfl, hb, he, hg⟩ := hp
  obtain ⟨v, u, t, rfl, r1, r2, r3⟩ := r.three
  cases e with
  | int lo =>
    cases g with
    | int hi =>
      cases d with
      | non =>
        refine (es_ifret (b := true) ((eb_or (b := true) (eb_T (ev_op m (ev_var m rfl r1) ev_non r_isN)) fun z => by cases z).is rfl) (fun _ => es_ret ev_bl) fun z => by cases z).is rfl
      | str w =>
        have hw : (PyData.strOk w && decide (w.length ≤ 100) && (!digits w || (decide (w.length = 0) || (PySem.intText? w).isSome))) = true := hb
        simp only [Bool.and_eq_true, Bool.or_eq_true, Bool.not_eq_true', decide_eq_true_eq] at hw
        obtain ⟨⟨hok, hlen⟩, hnum⟩ := hw
        have hl : EvD K S (tCB (rLenV K) (tCons (tVar 0) tNil)) (start ["word", "least", "most", "sign"] [v, u, t]) H (.int w.length) := ev_cb (ea_cons m (ev_var m rfl r1) ea_nil) (ra_len (by simp [lenOk]; omega))
        have hall : EvB (tB (tCB (rAll K) (tCons (tLc (iSeq K (tVar 0)) (gName 3) tYes (tOp rInSign (tVar 3) (tC (.str "0123456789"))) [3]) tNil))) (start ["word", "least", "most", "sign"] [v, u, t]) H (digits w) :=
          eb_B (ev_cb (ea_cons m ((ev_map (f := fun d => match d with | .str x => .bl (decide (x.cps.getD 0 0 ∈ figs.cps.toList)) | _ => .non) m (ei_seq m (ev_var m rfl r1) rfl) (by
              show (w.cps.toList.map _).length ≤ _
              rw [List.length_map, Array.length_toList]
              have : w.cps.size = w.length := rfl
              omega) fun S' H' m' up ex x d hd rx => by
            obtain ⟨c, hc, rfl⟩ := List.mem_map.mp (show d ∈ w.cps.toList.map fun c => D.str ⟨#[c]⟩ from hd)
            refine ⟨rfl, fun H1 e1 Q q => ?_⟩
            cases rx
            exact ⟨_, rfl, c, figs, rfl, rfl, q _ H1 (Evl.Ex.refl _) (.bl _)⟩).is (by
              show D.lst ((w.cps.toList.map fun c => D.str ⟨#[c]⟩).map _) = D.lst ((w.cps.toList.map fun c => decide (c ∈ figs.cps.toList)).map D.bl)
              rw [List.map_map, List.map_map]
              rfl)) ea_nil) ra_all)
        refine (es_ifret (b := (!(decide ((1 : Int) ≤ w.length) && decide ((w.length : Int) ≤ 9)) || !digits w)) (eb_or (a := false) (eb_T (ev_op m (ev_var m rfl r1) ev_non r_isN)) fun _ =>
          eb_or (eb_not (eb_T (ev_chain m ev_int hl r_le (fun _ => ev_int) fun _ => r_le))) fun _ => eb_not hall) (fun hc => (es_ret (ev_bl (i := false))).is (show D.bl false = D.bl (figB w lo hi) by rw [figB, if_pos hc])) fun hc => ?_)
        have hc' : (decide ((1 : Int) ≤ w.length) && decide ((w.length : Int) ≤ 9)) = true ∧ digits w = true := by
          rw [Bool.or_eq_false_iff] at hc
          exact ⟨by simpa using hc.1, by simpa using hc.2⟩
        have h1 : 1 ≤ w.length := by
          have := hc'.1
          simp only [Bool.and_eq_true, decide_eq_true_eq] at this
          omega
        obtain ⟨n, hn⟩ : ∃ n, PySem.intText? w = some n := by
          rcases hnum with z | z | z
          · rw [hc'.2] at z; cases z
          · omega
          · exact Option.isSome_iff_exists.mp z
        have hnn : num w = n := by unfold num; rw [hn]; rfl
        have h0 : w.cps[0]? = some (w.cps.getD 0 0) := by
          have : 0 < w.cps.size := h1
          rw [Array.getElem?_eq_getElem this]
          simp [Array.getD, this]
        refine (es_ret (ev_and (ev_or (ev_op m (ev_var m rfl r1) ev_str (r_eqD (d1 := .str w) hok (by decide +kernel) (Nat.zero_le _) (Nat.zero_le _))) fun _ =>
            ev_op m (ev_op m (ev_var m rfl r1) ev_int (r_ixS (by omega) h0)) ev_str (r_neD (d1 := .str (head0 w)) ?_ (by decide +kernel) (Nat.zero_le _) (Nat.zero_le _))) fun _ =>
            ev_chain m (ev_var m rfl r2) (ev_cb (ea_cons m (ev_var m rfl r1) ea_nil) (ra_intS hn (by omega))) r_le (fun _ => ev_var m rfl r3) fun _ => r_le)).is ?_
        · show PyData.strOk (head0 w) = true
          have : w.cps.getD 0 0 ∈ w.cps.toList := by
            have hz := List.mem_of_getElem? (l := w.cps.toList) (i := 0) (by rw [Array.getElem?_toList]; exact h0)
            exact hz
          have ha : w.cps.all (· < 0x110000) = true := hok
          rw [← Array.all_toList] at ha
          have := List.all_eq_true.mp ha _ this
          show (#[w.cps.getD 0 0]).all (· < 0x110000) = true
          simpa using this
        · rw [eqD_str, eqD_str, ← hnn]
          show _ = D.bl (figB w lo hi)
          rw [figB, if_neg (by rw [hc]; exact Bool.false_ne_true)]
      | _ => cases hb
    | _ => cases hg
  | _ => cases he
end
end Nv
set_option Elab.async false
set_option linter.all false
set_option maxRecDepth 100000
set_option maxHeartbeats 4000000
/-! Promises: steps. -/
namespace Nv
open PySem PySem.Spec PyProof.Rows L2 StX NvZ
section
variable {K : PySem.W.Frag} {A : Ads} {S : Addr → Prop} {σ : L2.St} {H : Hp} {E : XK}
/-! ### targets of two -/
abbrev g2 (K : PySem.W.Frag) (i j : Nat) : TG := gTup K 2 (gCons (gName i) (gCons (gName j) gNil))
theorem g2_mono {i j : Nat} : ∀ (x : V) (σ : L2.St) (H : Hp) (Q Q' : L2.St → Hp → Prop), (∀ σ2 H2, Q σ2 H2 → Q' σ2 H2) → g2 K i j x σ H Q → g2 K i j x σ H Q' := fun x σ H Q Q' h q => by
  obtain ⟨a, xs, e, hs, hl, v, r, e2, v2, r2, e3, e4, q⟩ := q
  exact ⟨a, xs, e, hs, hl, v, r, e2, v2, r2, e3, e4, h _ _ q⟩
theorem g2_of {i j : Nat} {x : V} {d1 d2 : D} {Q : L2.St → Hp → Prop} (r : Rp K S H x (.tup [d1, d2])) (h : ∀ v w, Rp K S H v d1 → Rp K S H w d2 → Q ((σ.set i (some v)).set j (some w)) H) : g2 K i j x σ H Q := by
  cases r with
  | @tup a xs _ h1 h2 =>
    obtain ⟨v, w, rfl, r1, r2⟩ := h2.two
    exact ⟨a, _, rfl, h1.sq, rfl, v, [w], rfl, w, [], rfl, rfl, h v w r1 r2⟩
def pairD (p : D × D) : D := .tup [p.1, p.2]
def onPair {α : Type} (f : D × D → α) (z : α) : D → α
  | .tup [a, b] => f (a, b)
  | _ => z
theorem ev_map2 {wi : TI} {i j : Nat} {te : TE} {ps : List (D × D)} {f : D × D → D} (m : Mem S H) (hi : EvI K S wi σ H (ps.map pairD)) (hl : ps.length ≤ 100000)
    (hb : ∀ S' H', Mem S' H' → Up K S H S' H' → Ex H H' → ∀ p, p ∈ ps → ∀ x y, Rp K S' H' x p.1 → Rp K S' H' y p.2 → wipe (((wipe σ [i, j]).set i (some x)).set j (some y)) [i, j] = wipe σ [i, j] ∧ EvD K S' te (((wipe σ [i, j]).set i (some x)).set j (some y)) H' (f p)) :
    EvD K S (tLc wi (g2 K i j) tYes te [i, j]) σ H (.lst (ps.map f)) := by
  have h := ev_lc (p := fun _ => true) (f := onPair f .non) (g := g2 K i j) (tt := tYes) (te := te) (vs := [i, j]) m hi (by rw [List.length_map]; exact hl) (fun S' H' m' up ex x d hd rx => by
    obtain ⟨p, hp, rfl⟩ := List.mem_map.mp hd
    exact g2_of rx fun v w r1 r2 => ⟨Evl.Ex.refl _, (hb S' H' m' up ex p hp v w r1 r2).1, fun H1 _ Q q => q H1 (Evl.Ex.refl _), fun _ => (hb S' H' m' up ex p hp v w r1 r2).2⟩) g2_mono
  rw [filt_t, List.map_map] at h
  exact h
/-! ### forms -/
def formOf (w : Str) : Option Str :=
  if w = "new" then some "rk" else if w = "read" then some "rrf" else if w = "write" then some "rfv" else if w = "copy" then some "rr" else if w = "drop" then some "r" else if w = "tick" then some "" else none
def mostOf (s : Str) : Option Int :=
  if s = "r" then some 3 else if s = "k" then some 2 else if s = "f" then some 1 else if s = "v" then some 3 else none
/-- what the module's two dicts hold -/
structure Dx (A : Ads) (K : PySem.W.Frag) : Prop where
  forms : ∀ w, ∃ r, PySem.W.nsIn K A.dF w = some r ∧ (∀ f, formOf w = some f → ∃ t, r = some (.str f t)) ∧ (formOf w = none → r = none)
  mosts : ∀ s i, mostOf s = some i → ∃ t, PySem.W.nsIn K A.dM s = some (some (.int i t))
theorem ev_form {te : TE} {w f : Str} (X : Dx A K) (h : EvD K S te σ H (.str w)) (e : formOf w = some f) : EvD K S (tOp (rKItem K A.dF) (tC (.ref A.dF)) te) σ H (.str f) := by
  obtain ⟨r, h1, h2, _⟩ := X.forms w
  obtain ⟨t, rfl⟩ := h2 f e
  exact ev_kitemS h h1
theorem ev_most {te : TE} {s : Str} {i : Int} (X : Dx A K) (h : EvD K S te σ H (.str s)) (e : mostOf s = some i) : EvD K S (tOp (rKItem K A.dM) (tC (.ref A.dM)) te) σ H (.int i) := by
  obtain ⟨t, h1⟩ := X.mosts s i e
  exact ev_kitemI h h1
theorem ev_notform {te : TE} {w : Str} (X : Dx A K) (h : EvD K S te σ H (.str w)) : EvD K S (tOp (rKNotIn K A.dF) te (tC (.ref A.dF))) σ H (.bl (!(formOf w).isSome)) := by
  obtain ⟨r, h1, h2, h3⟩ := X.forms w
  refine (ev_knotin h h1).is ?_
  cases e : formOf w with
  | none => rw [h3 e]; rfl
  | some f =>
    obtain ⟨t, rfl⟩ := h2 f e
    rfl
def sorts (f : Str) : List Str := f.cps.toList.map fun c => ⟨#[c]⟩
def mostI (s : Str) : Int := (mostOf s).getD 0
def partOk (s : Str) (d : D) : Bool := (decide (s = "v") && d.isNon) || withinD d 0 (mostI s)
def stepL (ds : List D) : Bool := match ds with
  | .str w :: ps => match formOf w with
    | some f => decide (ps.length = f.length) && (((sorts f).zip ps).all fun p => partOk p.1 p.2) && (!decide (w = "copy") || !eqD (ps.getD 0 .non) (ps.getD 1 .non))
    | none => false
  | _ => false
def isStepD : D → Bool
  | .lst ds => stepL ds
  | .tup ds => stepL ds
  | _ => false
/-- asked of what is_step is handed: no instance anywhere, words that are texts -/
def headOk : List D → Bool
  | .str w :: _ => PyData.strOk w
  | _ => true
def stepIn (d : D) : Bool := match d with
  | .lst ds => ds.all D.base && headOk ds && decide (ds.length ≤ 1000)
  | .tup ds => ds.all D.base && headOk ds && decide (ds.length ≤ 1000)
  | .ins _ => false
  | _ => true
theorem form_cases {w f : Str} (h : formOf w = some f) : (w = "new" ∧ f = "rk") ∨ (w = "read" ∧ f = "rrf") ∨ (w = "write" ∧ f = "rfv") ∨ (w = "copy" ∧ f = "rr") ∨ (w = "drop" ∧ f = "r") ∨ (w = "tick" ∧ f = "") := by
  unfold formOf at h
  by_cases h1 : w = "new"
  · rw [if_pos h1] at h; cases h; exact .inl ⟨h1, rfl⟩
  rw [if_neg h1] at h
  by_cases h2 : w = "read"
  · rw [if_pos h2] at h; cases h; exact .inr (.inl ⟨h2, rfl⟩)
  rw [if_neg h2] at h
  by_cases h3 : w = "write"
  · rw [if_pos h3] at h; cases h; exact .inr (.inr (.inl ⟨h3, rfl⟩))
  rw [if_neg h3] at h
  by_cases h4 : w = "copy"
  · rw [if_pos h4] at h; cases h; exact .inr (.inr (.inr (.inl ⟨h4, rfl⟩)))
  rw [if_neg h4] at h
  by_cases h5 : w = "drop"
  · rw [if_pos h5] at h; cases h; exact .inr (.inr (.inr (.inr (.inl ⟨h5, rfl⟩))))
  rw [if_neg h5] at h
  by_cases h6 : w = "tick"
  · rw [if_pos h6] at h; cases h; exact .inr (.inr (.inr (.inr (.inr ⟨h6, rfl⟩))))
  rw [if_neg h6] at h
  cases h
/-- each sort of a form has its most; a form is short, its signs are signs -/
theorem form_sorts {w f : Str} (h : formOf w = some f) : (∀ s ∈ sorts f, ∃ i, mostOf s = some i ∧ PyData.strOk s = true) ∧ f.length ≤ 3 ∧ (sorts f).length = f.length ∧ PyData.strOk w = true := by
  have k : ∀ s : Str, (mostOf s).isSome = true → PyData.strOk s = true → ∃ i, mostOf s = some i ∧ PyData.strOk s = true := fun s h o => by
    obtain ⟨i, hi⟩ := Option.isSome_iff_exists.mp h
    exact ⟨i, hi, o⟩
  have kk : ∀ f : Str, (sorts f).all (fun s => (mostOf s).isSome && PyData.strOk s) = true → ∀ s ∈ sorts f, ∃ i, mostOf s = some i ∧ PyData.strOk s = true := fun f h s hs => by
    have := List.all_eq_true.mp h s hs
    rw [Bool.and_eq_true] at this
    exact k s this.1 this.2
  rcases form_cases h with ⟨rfl, rfl⟩ | ⟨rfl, rfl⟩ | ⟨rfl, rfl⟩ | ⟨rfl, rfl⟩ | ⟨rfl, rfl⟩ | ⟨rfl, rfl⟩
  all_goals exact ⟨kk _ (by decide +kernel), by decide +kernel, by decide +kernel, by decide +kernel⟩
theorem items_str (f : Str) : items (.str f) = (sorts f).map D.str := by
  show (f.cps.toList.map fun c => D.str ⟨#[c]⟩) = List.map _ (f.cps.toList.map _)
  rw [List.map_map]
  rfl
end
end Nv
set_option Elab.async false
set_option linter.all false
set_option maxRecDepth 100000
set_option maxHeartbeats 4000000
/-! Promises: is_step. -/
namespace Nv
open PySem PySem.Spec PyProof.Rows L2 StX NvZ
section
variable {K : PySem.W.Frag} {A : Ads} {S : Addr → Prop} {σ : L2.St} {H : Hp} {E : XK}
def SeqD (d : D) (ds : List D) : Prop := d = .lst ds ∨ d = .tup ds
def likeD (d : D) (es : List D) : D := match d with
  | .lst _ => .lst es
  | _ => .tup es
theorem r_ixQ {d e : D} {ds : List D} {j : Nat} (h : SeqD d ds) (hj : ds[j]? = some e) : R2D K S (rIx K) H d (.int j) e := by
  rcases h with rfl | rfl
  · exact r_ixL hj
  · exact r_ixT hj
theorem items_Q {d : D} {ds : List D} (h : SeqD d ds) : items d = ds := by rcases h with rfl | rfl <;> rfl
theorem lenD_Q {d : D} {ds : List D} (h : SeqD d ds) : lenD d = ds.length := by rcases h with rfl | rfl <;> rfl
theorem lenOk_Q {d : D} {ds : List D} (h : SeqD d ds) : lenOk d = true := by rcases h with rfl | rfl <;> rfl
theorem isLT_Q {d : D} {ds : List D} (h : SeqD d ds) : d.isLT = true := by rcases h with rfl | rfl <;> rfl
theorem base_Q {d : D} {ds : List D} (h : SeqD d ds) : d.base = true := by rcases h with rfl | rfl <;> rfl
theorem walks_Q {d : D} {ds : List D} (h : SeqD d ds) : walks d = true := by rcases h with rfl | rfl <;> rfl
/-- xs[1:] -/
theorem ev_tail {te : TE} {d e : D} {ds : List D} (m : Mem S H) (h : SeqD d (e :: ds)) (ht : EvD K S te σ H d) : ∃ d', SeqD d' ds ∧ EvD K S (tSl (rSl K) te (tPart (tC (.int 1))) tNoPart) σ H d' := by
  have hlo : EvO (tPart (tC (.int 1))) σ H (some ((1 : Nat) : Int)) := eo_some (K := K) (S := S) ev_int
  have c : cutD (e :: ds) (some ((1 : Nat) : Int)) none = ds := cut_from (by simp)
  rcases h with rfl | rfl
  · refine ⟨.lst ds, .inl rfl, ?_⟩
    have := ev_slL m ht hlo eo_none
    rwa [c] at this
  · refine ⟨.tup ds, .inr rfl, ?_⟩
    have := ev_slT m ht hlo eo_none (by
      rw [HT.sIx_nat]
      intro z
      have z1 := z.1
      rw [List.length_cons] at z1
      omega)
    rwa [c] at this
abbrev spStep (K : PySem.W.Frag) : Sp := Pure K 1 (in1 fun d => stepIn d = true) (at1 fun d => .bl (isStepD d))
theorem ok_zip {α : Type} {l : List Str} {ps : List α} {p : Str × α} (h : p ∈ l.zip ps) : p.1 ∈ l ∧ p.2 ∈ ps := ⟨(List.of_mem_zip h).1, (List.of_mem_zip h).2⟩
theorem withinD_int {d : D} {lo hi : Int} (h : withinD d lo hi = true) : ∃ i, d = .int i := by cases d <;> first | exact ⟨_, rfl⟩ | cases h
theorem partOk_int {s : Str} {d : D} (hs : s ≠ "v") (h : partOk s d = true) : ∃ i, d = .int i := by
  unfold partOk at h
  rw [decide_eq_false hs, Bool.false_and, Bool.false_or] at h
  exact withinD_int h
theorem rrSorts : sorts "rr" = (["r", "r"] : List Str) := by decide +kernel
theorem copyForm : formOf "copy" = some "rr" := by decide +kernel
theorem stepL_none {w : Str} {ps : List D} (h : formOf w = none) : stepL (.str w :: ps) = false := by
  show (match formOf w with | some f => _ | none => false) = _
  rw [h]
theorem pr_step (X : Dx A K) (vs : List V) (H : Hp) (Q : VK) (E : XK) (h : spStep K vs H Q E) : t_is_step K A E (spListed K) (spPlainTuple K) (spWithin K) { nx := fun _ H' => Q .non H', rt := Q } (start ["value", "form", "sort", "part"] vs) H := pure_of h fun S ds hn m r hp => by
  obtain ⟨d, rfl, hin⟩ := hp
  obtain ⟨v, rfl, r1⟩ := r.one
  have hbase : d.base = true := by cases d <;> first | rfl | cases hin
  have hlisted : EvB (tB (tCall (spListed K) [] E0 (tCons (tVar 0) tNil))) (start ["value", "form", "sort", "part"] [v]) H d.isLT := eb_B (ev_pure m (ea_cons m (ev_var m rfl r1) ea_nil) rfl ⟨d, rfl, hbase⟩)
  by_cases hq : ∃ ds, SeqD d ds
  · obtain ⟨ds, hq⟩ := hq
    have hin' : ds.all D.base = true ∧ headOk ds = true ∧ ds.length ≤ 1000 := by
      rcases hq with rfl | rfl <;> (simp only [stepIn, Bool.and_eq_true, decide_eq_true_eq] at hin; exact ⟨hin.1.1, hin.1.2, hin.2⟩)
    have hst : isStepD d = stepL ds := by rcases hq with rfl | rfl <;> rfl
    have hT := isLT_Q hq
    have hlen : EvB (tTest (tOp (rEqD K) (tCB (rLenV K) (tCons (tVar 0) tNil)) (tC (.int 0)))) (start ["value", "form", "sort", "part"] [v]) H (decide ((ds.length : Int) = 0)) := by
      have := eb_T (ev_op m (ev_cb (ea_cons m (ev_var m (σ := start ["value", "form", "sort", "part"] [v]) (i := 0) rfl r1) ea_nil) (ra_len (lenOk_Q hq))) (ev_int (i := 0)) (r_eqD rfl rfl (Nat.zero_le _) (Nat.zero_le _)))
      rwa [eqD_int, lenD_Q hq] at this
    cases ds with
    | nil =>
      refine (es_ifret (b := true) ((eb_or (b := true) (eb_not hlisted) fun _ => eb_or (b := true) hlen fun z => by cases z).is (by rw [hT]; rfl)) (fun _ => (es_ret ev_bl).is (by show _ = D.bl (isStepD d); rw [hst]; rfl)) fun z => by cases z)
    | cons e ps =>
      have hlen0 : decide (((e :: ps).length : Int) = 0) = false := by simp; omega
      have h0 : EvD K S (tOp (rIx K) (tVar 0) (tC (.int 0))) (start ["value", "form", "sort", "part"] [v]) H e := ev_op m (ev_var m rfl r1) ev_int (r_ixQ (j := 0) hq rfl)
      have hb : e.base = true ∧ ps.all D.base = true := by simpa using hin'.1
      have hisi : EvB (tB (tCB (rIsi K) (tCons (tOp (rIx K) (tVar 0) (tC (.int 0))) (tCons (tC (.ty "str")) tNil)))) (start ["value", "form", "sort", "part"] [v]) H e.isStr := eb_B (r_isi h0 (okT_base hb.1) (ki_str hb.1))
      by_cases hs : ∃ w, e = .str w
      · obtain ⟨w, rfl⟩ := hs
        have hwok : PyData.strOk w = true := hin'.2.1
        have hnf : EvB (tTest (tOp (rKNotIn K A.dF) (tOp (rIx K) (tVar 0) (tC (.int 0))) (tC (.ref A.dF)))) (start ["value", "form", "sort", "part"] [v]) H (!(formOf w).isSome) := eb_T (ev_notform X h0)
        have hfirst : EvB (tOr (tNot (tB (tCall (spListed K) [] E0 (tCons (tVar 0) tNil)))) (tOr (tTest (tOp (rEqD K) (tCB (rLenV K) (tCons (tVar 0) tNil)) (tC (.int 0)))) (tOr (tNot (tB (tCB (rIsi K) (tCons (tOp (rIx K) (tVar 0) (tC (.int 0))) (tCons (tC (.ty "str")) tNil))))) (tTest (tOp (rKNotIn K A.dF) (tOp (rIx K) (tVar 0) (tC (.int 0))) (tC (.ref A.dF))))))) (start ["value", "form", "sort", "part"] [v]) H (!(formOf w).isSome) :=
          (eb_or (eb_not hlisted) fun _ => eb_or hlen fun _ => eb_or (eb_not hisi) fun _ => hnf).is (by rw [hT, hlen0]; rfl)
        refine es_ifret hfirst (fun hnone => ?_) fun hsome => ?_
        · refine (es_ret ev_bl).is ?_
          show _ = D.bl (isStepD d)
          rw [hst]
          show D.bl false = D.bl (stepL (.str w :: ps))
          have hf : formOf w = none := by simpa using hnone
          rw [stepL_none hf]
        · cases hf : formOf w with
          | none => rw [hf] at hsome; cases hsome
          | some f =>
            obtain ⟨fs1, fs2, fs3, fs4⟩ := form_sorts hf
            refine es_set (ev_form X h0 hf) fun u H1 ex1 ru => ?_
            have m1 := m.ex ex1
            have r1' := r1.mono (.of m ex1)
            have hplain : EvB (tB (tCall (spPlainTuple K) [] E0 (tCons (tVar 0) (tCons (tOp rAddI (tCB (rLenV K) (tCons (tVar 1) tNil)) (tC (.int 1))) tNil)))) ((start ["value", "form", "sort", "part"] [v]).set 1 (some u)) H1 (decide (ps.length = f.length)) := by
              refine (eb_B (ev_pure m1 (ea_cons m1 (ev_var m1 rfl r1') (ea_cons m1 (ev_op m1 (ev_cb (ea_cons m1 (ev_var m1 rfl ru) ea_nil) (ra_len (d := .str f) (by simp [lenOk]; omega))) ev_int r_add) ea_nil)) rfl ⟨_, _, rfl, hbase, rfl⟩)).is ?_
              show (d.isLT && decide ((lenD d : Int) = ((lenD (.str f) : Nat) : Int) + 1)) = decide (ps.length = f.length)
              rw [hT, lenD_Q hq, Bool.true_and]
              rw [Bool.eq_iff_iff, decide_eq_true_iff, decide_eq_true_iff, List.length_cons]
              show ((ps.length + 1 : Nat) : Int) = (f.length : Int) + 1 ↔ _
              omega
            have stepE : stepL (.str w :: ps) = (decide (ps.length = f.length) && (((sorts f).zip ps).all fun p => partOk p.1 p.2) && (!decide (w = "copy") || !eqD (ps.getD 0 .non) (ps.getD 1 .non))) := by
              show (match formOf w with | some f => _ | none => false) = _
              rw [hf]
            refine es_ifret (eb_not hplain) (fun hbad => ?_) fun hgood => ?_
            · refine (es_ret ev_bl).is ?_
              show _ = D.bl (isStepD d)
              rw [hst, stepE]
              have : decide (ps.length = f.length) = false := by simpa using hbad
              rw [this]; rfl
            · have hl : ps.length = f.length := by simpa using hgood
              obtain ⟨d', hq', htail⟩ := ev_tail (σ := (start ["value", "form", "sort", "part"] [v]).set 1 (some u)) m1 hq (ev_var (i := 0) m1 rfl r1')
              have hz : ((items (.str f)).zip (items d')).map (fun p => D.tup [p.1, p.2]) = ((((sorts f).zip ps).map fun p => (D.str p.1, p.2))).map pairD := by
                rw [items_str, items_Q hq', List.map_map, List.zip_map_left, List.map_map]
                rfl
              have hall : EvB (tB (tCB (rAll K) (tCons (tLc (iZipS K (tCons (tVar 1) (tCons (tSl (rSl K) (tVar 0) (tPart (tC (.int 1))) tNoPart) tNil))) (g2 K 2 3) tYes (tOrV (tAndV (tOp (rEqD K) (tVar 2) (tC (.str "v"))) (tOp rIsN (tVar 3) (tC .non))) (tCall (spWithin K) [] E0 (tCons (tVar 3) (tCons (tC (.int 0)) (tCons (tOp (rKItem K A.dM) (tC (.ref A.dM)) (tVar 2)) tNil))))) [2, 3]) tNil)))
                  ((start ["value", "form", "sort", "part"] [v]).set 1 (some u)) H1 (((sorts f).zip ps).all fun p => partOk p.1 p.2) := by
                have hi := ei_zip m1 (ea_cons m1 (ev_var (i := 1) m1 rfl ru) (ea_cons m1 htail ea_nil)) (w := rfl) (walks_Q hq')
                rw [hz] at hi
                refine (eb_B (ev_cb (ea_cons m1 ((ev_map2 (f := fun p => match p.1 with | .str s => .bl (partOk s p.2) | _ => .non) m1 hi (by rw [List.length_map]; exact Nat.le_trans (by rw [List.length_zip]; exact Nat.min_le_right _ _) (show ps.length ≤ 100000 by omega)) fun S' H' m' up ex p hp x y rx ry => ?_).is (d1 := .lst ((((sorts f).zip ps).map fun p => partOk p.1 p.2).map D.bl)) ?_) ea_nil) ra_all)).is ?_
                · obtain ⟨⟨s, dd⟩, hsd, rfl⟩ := List.mem_map.mp hp
                  obtain ⟨hs1, hd1⟩ := ok_zip hsd
                  obtain ⟨i, hi1, hok⟩ := fs1 s hs1
                  have hbd : dd.base = true := List.all_eq_true.mp hb.2 dd hd1
                  refine ⟨rfl, ?_⟩
                  have ex1 : EvD K S' (tOp (rEqD K) (tVar 2) (tC (.str "v"))) (((wipe ((start ["value", "form", "sort", "part"] [v]).set 1 (some u)) [2, 3]).set 2 (some x)).set 3 (some y)) H' (.bl (decide (s = "v"))) := by
                    have := ev_op m' (ev_var (σ := (((wipe ((start ["value", "form", "sort", "part"] [v]).set 1 (some u)) [2, 3]).set 2 (some x)).set 3 (some y))) (i := 2) m' rfl rx) (ev_str (i := "v")) (r_eqD (d1 := .str s) hok (by decide +kernel) (Nat.zero_le _) (Nat.zero_le _))
                    rwa [eqD_str] at this
                  have ex2 : EvD K S' (tCall (spWithin K) [] E0 (tCons (tVar 3) (tCons (tC (.int 0)) (tCons (tOp (rKItem K A.dM) (tC (.ref A.dM)) (tVar 2)) tNil)))) (((wipe ((start ["value", "form", "sort", "part"] [v]).set 1 (some u)) [2, 3]).set 2 (some x)).set 3 (some y)) H' (.bl (withinD dd 0 i)) :=
                    ev_pure m' (ea_cons m' (ev_var m' rfl ry) (ea_cons m' ev_int (ea_cons m' (ev_most X (ev_var m' rfl rx) hi1) ea_nil))) rfl ⟨dd, _, _, rfl, hbd, rfl, rfl⟩
                  have := ev_or (ev_and ex1 fun _ => ev_op m' (ev_var (i := 3) m' rfl ry) ev_non r_isN) fun _ => ex2
                  refine this.is ?_
                  show D.bl (decide (s = "v") && dd.isNon || withinD dd 0 i) = D.bl (decide (s = "v") && dd.isNon || withinD dd 0 (mostI s))
                  rw [show mostI s = i by unfold mostI; rw [hi1]; rfl]
                · rw [List.map_map, List.map_map]
                  rfl
                · rw [List.all_map]
                  rfl
              refine es_ifret (eb_not hall) (fun hbad => ?_) fun hgood2 => ?_
              · refine (es_ret ev_bl).is ?_
                show _ = D.bl (isStepD d)
                rw [hst, stepE]
                have : (((sorts f).zip ps).all fun p => partOk p.1 p.2) = false := by simpa using hbad
                rw [this, Bool.and_false]; rfl
              · have hgood3 : (((sorts f).zip ps).all fun p => partOk p.1 p.2) = true := by simpa using hgood2
                have h0' : EvD K S (tOp (rIx K) (tVar 0) (tC (.int 0))) ((start ["value", "form", "sort", "part"] [v]).set 1 (some u)) H1 (.str w) := ev_op m1 (ev_var m1 rfl r1') ev_int (r_ixQ (j := 0) hq rfl)
                have hne : EvD K S (tOp (rNeD K) (tOp (rIx K) (tVar 0) (tC (.int 0))) (tC (.str "copy"))) ((start ["value", "form", "sort", "part"] [v]).set 1 (some u)) H1 (.bl (!decide (w = "copy"))) := by
                  have := ev_op m1 h0' (ev_str (i := "copy")) (r_neD (d1 := .str w) hwok (by decide +kernel) (Nat.zero_le _) (Nat.zero_le _))
                  rwa [eqD_str] at this
                have fin := ev_or (tb := tOp (rNeD K) (tOp (rIx K) (tVar 0) (tC (.int 1))) (tOp (rIx K) (tVar 0) (tC (.int 2)))) (b := !eqD (ps.getD 0 .non) (ps.getD 1 .non)) hne fun hw => by
                  have hw' : w = "copy" := by simpa using hw
                  subst hw'
                  rw [copyForm] at hf
                  cases hf
                  have h2 : ps.length = 2 := hl
                  obtain ⟨a, b, rfl⟩ : ∃ a b, ps = [a, b] := by
                    match ps, h2 with
                    | [a, b], _ => exact ⟨a, b, rfl⟩
                  rw [rrSorts] at hgood3
                  have hg : partOk "r" a = true ∧ partOk "r" b = true := by simpa using hgood3
                  obtain ⟨i, rfl⟩ := partOk_int (by decide +kernel) hg.1
                  obtain ⟨j, rfl⟩ := partOk_int (by decide +kernel) hg.2
                  exact ev_op m1 (ev_op m1 (ev_var m1 rfl r1') ev_int (r_ixQ (j := 1) hq rfl)) (ev_op m1 (ev_var m1 rfl r1') ev_int (r_ixQ (j := 2) hq rfl)) (r_neD rfl rfl (Nat.zero_le _) (Nat.zero_le _))
                refine (es_ret fin).is ?_
                show _ = D.bl (isStepD d)
                rw [hst, stepE, hgood3, decide_eq_true hl]
                rfl
      · have hns : e.isStr = false := by cases e <;> first | rfl | exact absurd ⟨_, rfl⟩ hs
        refine es_ifret (b := true) ((eb_or (b := true) (eb_not hlisted) fun _ => eb_or (b := true) hlen fun _ => (eb_or (b := true) (eb_not hisi) fun z => by rw [hns] at z; cases z).is (by rw [hns]; rfl)).is (by rw [hT]; first | rfl | (rw [hlen0]; rfl))) (fun _ => (es_ret ev_bl).is ?_) fun z => by cases z
        show _ = D.bl (isStepD d)
        rw [hst]
        show D.bl false = D.bl (stepL (e :: ps))
        cases e <;> first | rfl | exact absurd ⟨_, rfl⟩ hs
  · have hT : d.isLT = false := by cases d <;> first | rfl | exact absurd ⟨_, .inl rfl⟩ hq | exact absurd ⟨_, .inr rfl⟩ hq
    refine es_ifret (b := true) ((eb_or (b := true) (eb_not hlisted) fun z => by rw [hT] at z; cases z).is (by rw [hT]; rfl)) (fun _ => (es_ret ev_bl).is ?_) fun z => by cases z
    cases d <;> first | rfl | exact absurd ⟨_, .inl rfl⟩ hq | exact absurd ⟨_, .inr rfl⟩ hq
end
end Nv
set_option Elab.async false
set_option linter.all false
set_option maxRecDepth 100000
set_option maxHeartbeats 4000000
/-! Promises: step_words, step_text, need_steps, program_text. -/
namespace Nv
open PySem PySem.Spec PyProof.Rows L2 StX NvZ
def partW : D → Str
  | .int i => istr i
  | _ => "-"
def wordsOf : List D → List Str
  | .str w :: ps => w :: ps.map partW
  | _ => []
def textOf (ds : List D) : Str := Txt.join " " (wordsOf ds)
theorem stepL_inv {ds : List D} (h : stepL ds = true) : ∃ w f ps, ds = .str w :: ps ∧ formOf w = some f ∧ ps.length = f.length ∧ (((sorts f).zip ps).all fun p => partOk p.1 p.2) = true := by
  match ds with
  | .str w :: ps =>
    cases hf : formOf w with
    | none => rw [stepL_none hf] at h; cases h
    | some f =>
      have e : stepL (.str w :: ps) = (decide (ps.length = f.length) && (((sorts f).zip ps).all fun p => partOk p.1 p.2) && (!decide (w = "copy") || !eqD (ps.getD 0 .non) (ps.getD 1 .non))) := by
        show (match formOf w with | some f => _ | none => false) = _
        rw [hf]
      rw [e, Bool.and_eq_true, Bool.and_eq_true] at h
      exact ⟨w, f, ps, rfl, hf, of_decide_eq_true h.1.1, h.1.2⟩
  | [] => cases h
  | .non :: _ => cases h
  | .bl _ :: _ => cases h
  | .int _ :: _ => cases h
  | .lst _ :: _ => cases h
  | .tup _ :: _ => cases h
  | .dic :: _ => cases h
  | .ins _ :: _ => cases h
theorem most_cases {s : Str} {i : Int} (h : mostOf s = some i) : i = 3 ∨ i = 2 ∨ i = 1 := by
  unfold mostOf at h
  by_cases h1 : s = "r"
  · rw [if_pos h1] at h; cases h; exact .inl rfl
  rw [if_neg h1] at h
  by_cases h2 : s = "k"
  · rw [if_pos h2] at h; cases h; exact .inr (.inl rfl)
  rw [if_neg h2] at h
  by_cases h3 : s = "f"
  · rw [if_pos h3] at h; cases h; exact .inr (.inr rfl)
  rw [if_neg h3] at h
  by_cases h4 : s = "v"
  · rw [if_pos h4] at h; cases h; exact .inl rfl
  rw [if_neg h4] at h
  cases h
def PartIs (d : D) : Prop := d = .non ∨ ∃ i : Int, d = .int i ∧ 0 ≤ i ∧ i ≤ 3
theorem partOk_is {s : Str} {d : D} (h : partOk s d = true) : PartIs d := by
  unfold partOk at h
  rw [Bool.or_eq_true, Bool.and_eq_true] at h
  rcases h with ⟨_, h⟩ | h
  · cases d <;> first | exact .inl rfl | cases h
  · cases d with
    | int i =>
      have h' : 0 ≤ i ∧ i ≤ mostI s := by simpa [withinD] using h
      refine .inr ⟨i, rfl, h'.1, ?_⟩
      have : mostI s ≤ 3 := by
        unfold mostI
        cases e : mostOf s with
        | none => decide
        | some j => rcases most_cases e with rfl | rfl | rfl <;> decide
      omega
    | _ => cases h
theorem zip_right_mem {α β : Type} : ∀ {l : List α} {r : List β}, l.length = r.length → ∀ b ∈ r, ∃ a, (a, b) ∈ l.zip r
  | [], [], _, b, h => by cases h
  | a :: l, c :: r, hl, b, h => by
    rcases List.mem_cons.mp h with e | e
    · exact ⟨a, by rw [e]; exact List.mem_cons_self⟩
    · obtain ⟨x, hx⟩ := zip_right_mem (by simpa using hl) b e
      exact ⟨x, List.mem_cons_of_mem _ hx⟩
theorem step_parts {ds : List D} (h : stepL ds = true) : ∃ w f ps, ds = .str w :: ps ∧ formOf w = some f ∧ ps.length = f.length ∧ ps.length ≤ 3 ∧ w.length ≤ 5 ∧ PyData.strOk w = true ∧ ∀ p ∈ ps, PartIs p := by
  obtain ⟨w, f, ps, e, hf, hl, hp⟩ := stepL_inv h
  obtain ⟨_, f3, fl, fok⟩ := form_sorts hf
  refine ⟨w, f, ps, e, hf, hl, by omega, ?_, fok, fun p hp' => ?_⟩
  · rcases form_cases hf with ⟨rfl, _⟩ | ⟨rfl, _⟩ | ⟨rfl, _⟩ | ⟨rfl, _⟩ | ⟨rfl, _⟩ | ⟨rfl, _⟩ <;> decide +kernel
  · obtain ⟨s, hs⟩ := zip_right_mem (l := sorts f) (by rw [fl, hl]) p hp'
    exact partOk_is (List.all_eq_true.mp hp _ hs)
theorem partW_len {d : D} (h : PartIs d) : (partW d).length ≤ 1 := by
  rcases h with rfl | ⟨i, rfl, h0, h1⟩
  · decide +kernel
  · rcases (by omega : i = 0 ∨ i = 1 ∨ i = 2 ∨ i = 3) with rfl | rfl | rfl | rfl <;> decide +kernel
section
variable {K : PySem.W.Frag} {A : Ads} {S : Addr → Prop} {σ : L2.St} {H : Hp} {E : XK}
abbrev isStepT (d : D) : Prop := ∃ ds, d = .tup ds ∧ stepL ds = true
def itemsOfD : D → List D
  | .tup ds => ds
  | .lst ds => ds
  | _ => []
abbrev spWords (K : PySem.W.Frag) : Sp := Pure K 1 (in1 isStepT) (at1 fun d => .lst ((wordsOf (itemsOfD d)).map D.str))
theorem pr_words (vs : List V) (H : Hp) (Q : VK) (E : XK) (h : spWords K vs H Q E) : t_step_words K A E { nx := fun _ H' => Q .non H', rt := Q } (start ["step", "part"] vs) H := pure_of h fun S ds hn m r hp => by
  obtain ⟨d, rfl, ds, rfl, hst⟩ := hp
  obtain ⟨v, rfl, r1⟩ := r.one
  obtain ⟨w, f, ps, rfl, hf, hl, hl3, _, _, hps⟩ := step_parts hst
  obtain ⟨d', hq', htail⟩ := ev_tail (σ := start ["step", "part"] [v]) m (.inr rfl) (ev_var (i := 0) m rfl r1)
  have hw := walks_Q hq'
  have hi := ei_seq m htail hw
  rw [items_Q hq'] at hi
  have hlc := ev_map (i := 1) (te := tIf (tTest (tOp rIsN (tVar 1) (tC .non))) (tC (.str "-")) (tCB rStrI (tCons (tVar 1) tNil))) (f := fun d => .str (partW d)) m hi (by omega) fun S' H' m' up ex x d hd rx => by
    refine ⟨rfl, ?_⟩
    rcases hps d hd with rfl | ⟨i, rfl, h0, h1⟩
    · exact ev_if (b := true) (eb_T (ev_op m' (ev_var (i := 1) m' rfl rx) ev_non r_isN)) (fun _ => ev_str) fun z => by cases z
    · refine ev_if (b := false) (eb_T (ev_op m' (ev_var (i := 1) m' rfl rx) ev_non r_isN)) (fun z => by cases z) fun _ => ev_cb (ea_cons m' (ev_var m' rfl rx) ea_nil) (ra_str ?_)
      rcases (by omega : i = 0 ∨ i = 1 ∨ i = 2 ∨ i = 3) with rfl | rfl | rfl | rfl <;> decide +kernel
  have fin := ev_lst m (ea_cons m (ev_op m (ev_var (i := 0) m rfl r1) ev_int (r_ixT (j := 0) rfl)) (ea_star m hlc ea_nil)) (by simp; omega)
  refine (es_ret fin).is ?_
  show D.lst _ = D.lst _
  rw [List.append_nil]
  show D.lst (.str w :: _) = D.lst ((w :: ps.map partW).map D.str)
  rw [List.map_cons, List.map_map]
  rfl
theorem sum_le {α : Type} {g : α → Nat} {n : Nat} : ∀ {l : List α}, (∀ x ∈ l, g x ≤ n) → (l.map g).sum ≤ l.length * n
  | [], _ => by simp
  | x :: l, h => by
    have h1 := h x List.mem_cons_self
    have h2 := sum_le (l := l) fun y hy => h y (List.mem_cons_of_mem _ hy)
    simp only [List.map_cons, List.sum_cons, List.length_cons, Nat.succ_mul]
    omega
/-- the words of a step are short -/
theorem words_short {ds : List D} (h : stepL ds = true) : (∀ x ∈ wordsOf ds, x.length ≤ 5) ∧ (wordsOf ds).length ≤ 4 ∧ wordsOf ds ≠ [] := by
  obtain ⟨w, f, ps, rfl, hf, hl, hl3, hw, _, hps⟩ := step_parts h
  refine ⟨fun x hx => ?_, ?_, by simp [wordsOf]⟩
  · rcases List.mem_cons.mp hx with e | e
    · rw [e]; exact hw
    · obtain ⟨p, hp, rfl⟩ := List.mem_map.mp e
      exact Nat.le_trans (partW_len (hps p hp)) (by decide)
  · show (w :: ps.map partW).length ≤ 4
    rw [List.length_cons, List.length_map]; omega
theorem join_len (sep : Str) (l : List Str) : (Txt.join sep l).length ≤ (l.map (·.length)).sum + l.length * sep.length := by
  show (Builtin.Str.glued sep l).length ≤ _
  rw [StrLaws.glued_eq_join]
  exact StrLaws.join_length_le sep l
theorem text_short {ds : List D} (h : stepL ds = true) : (textOf ds).length ≤ 24 := by
  obtain ⟨h1, h2, _⟩ := words_short h
  have := join_len " " (wordsOf ds)
  have h3 := sum_le (g := fun x : Str => x.length) h1
  have e : (" " : Str).length = 1 := by decide +kernel
  rw [e] at this
  show (Txt.join " " (wordsOf ds)).length ≤ 24
  omega
abbrev spText (K : PySem.W.Frag) : Sp := Pure K 1 (in1 isStepT) (at1 fun d => .str (textOf (itemsOfD d)))
theorem pr_text (vs : List V) (H : Hp) (Q : VK) (E : XK) (h : spText K vs H Q E) : t_step_text K A E (spWords K) { nx := fun _ H' => Q .non H', rt := Q } (start ["step"] vs) H := pure_of h fun S ds hn m r hp => by
  obtain ⟨d, rfl, ds, rfl, hst⟩ := hp
  obtain ⟨v, rfl, r1⟩ := r.one
  obtain ⟨h1, h2, _⟩ := words_short hst
  have h3 := sum_le (g := fun x : Str => x.length) h1
  have e : (" " : Str).length = 1 := by decide +kernel
  exact es_ret (ev_join m ev_str (ev_pure m (ea_cons m (ev_var m rfl r1) ea_nil) rfl ⟨_, rfl, ds, rfl, hst⟩) (by rw [e]; show ((wordsOf ds).map (·.length)).sum + (wordsOf ds).length * 1 ≤ _; omega))
/-! ### need_steps -/
/-- raise X(..) of ints -/
theorem ts_raise {C : Addr} {fs : List Str} {W : WX} {ta : TA} {is : List Int} {D0 : Ends} (h : EvA K S ta σ H (is.map D.int)) (hl : is.length = fs.length) (hs : ∀ i ∈ is, i.natAbs.log2 < 1920)
    (q : ∀ p H', Ex H H' → H p = none → H' p = some (.xd (fs.zip (is.map V.int))) → W (.ref C) (some p) σ H') : tRaiseX C fs W ta D0 σ H := h H (Evl.Ex.refl _) _ fun vs H1 e1 r1 => by
  obtain rfl := r1.ints
  refine ⟨by rw [List.length_map]; exact hl, fun v hv => ?_, fun d hd => ?_⟩
  · obtain ⟨i, hi, rfl⟩ := List.mem_map.mp hv
    exact .inr ⟨i, rfl, hs i hi⟩
  · refine q d _ (e1.trans (Evl.Ex.new hd)) ?_ upd_same
    cases z : H d with
    | none => rfl
    | some o => rw [e1 _ _ z] at hd; cases hd
def badAt : List D → Option Nat
  | [] => none
  | d :: ds => if isStepD d = true then (badAt ds).map (· + 1) else some 0
theorem badAt_none : ∀ {ds : List D}, badAt ds = none ↔ ∀ d ∈ ds, isStepD d = true
  | [] => by simp [badAt]
  | d :: ds => by
    unfold badAt
    by_cases h : isStepD d = true
    · rw [if_pos h, Option.map_eq_none_iff, badAt_none]
      simp [h]
    · rw [if_neg h]; simp [h]
theorem badAt_some : ∀ {ds : List D} {i : Nat}, badAt ds = some i → i < ds.length ∧ (∃ d, ds[i]? = some d ∧ isStepD d = false) ∧ ∀ j d, j < i → ds[j]? = some d → isStepD d = true
  | [], i, h => by cases h
  | d :: ds, i, h => by
    unfold badAt at h
    by_cases hd : isStepD d = true
    · rw [if_pos hd, Option.map_eq_some_iff] at h
      obtain ⟨j, hj, rfl⟩ := h
      obtain ⟨h1, ⟨e, h2, h3⟩, h4⟩ := badAt_some hj
      refine ⟨by simp; omega, ⟨e, h2, h3⟩, fun k e' hk he' => ?_⟩
      cases k with
      | zero => cases he'; exact hd
      | succ k => exact h4 k e' (by omega) he'
    · rw [if_neg hd] at h
      cases h
      exact ⟨by simp, ⟨d, rfl, by simpa using hd⟩, fun j e hj => by omega⟩
/-- what need_steps is handed -/
def progIn (d : D) : Bool := match d with
  | .lst ds => ds.all (fun d => stepIn d && okF d && decide (dep d ≤ 10)) && decide (ds.length ≤ 1000)
  | .tup ds => ds.all (fun d => stepIn d && okF d && decide (dep d ≤ 10)) && decide (ds.length ≤ 1000)
  | .ins _ => false
  | _ => true
def needD (A : Ads) (d : D) : Addr × List (Str × V) ⊕ D :=
  if d.isLT = true then (match badAt (itemsOfD d) with
    | some i => .inl (A.cBadProgram, [("at", .int i)])
    | none => .inr (fixD d))
  else .inl (A.cBadProgram, [("at", .int (-1))])
def at1X (f : D → Addr × List (Str × V) ⊕ D) : List D → Addr × List (Str × V) ⊕ D
  | [d] => f d
  | _ => .inr .non
abbrev spNeed (K : PySem.W.Frag) (A : Ads) : Sp := PureX K 1 (in1 fun d => progIn d = true) (at1X (needD A))
theorem PureX.len {n : Nat} {pre : List D → Prop} {f : List D → Addr × List (Str × V) ⊕ D} {vs : List V} {Q : VK} (h : PureX K n pre f vs H Q E) : vs.length = n := by
  obtain ⟨S, ds, hl, m, r, _⟩ := h
  rw [r.length]; exact hl
theorem mapIdx_get {ds : List D} {i : Nat} {d : D} (h : (ds.mapIdx fun i d => D.tup [.int i, d])[i]? = some d) : ∃ e, ds[i]? = some e ∧ d = .tup [.int i, e] := by
  rw [List.getElem?_mapIdx, Option.map_eq_some_iff] at h
  obtain ⟨e, h1, rfl⟩ := h
  exact ⟨e, h1, rfl⟩
theorem small_nat {n : Nat} (h : n ≤ 100000) : ((n : Nat) : Int).natAbs.log2 < 1920 := by
  have e : ((n : Nat) : Int).natAbs = n := rfl
  rw [e]
  by_cases h0 : n = 0
  · subst h0; decide
  · have := (Nat.log2_lt h0).mpr (show n < 2 ^ 1920 from Nat.lt_of_le_of_lt h (by decide +kernel))
    exact this
theorem ts_if {b : Bool} {t : TT} {u r : TS} {D0 : Ends} (h : EvB t σ H b) (k : ∀ H1, Ex H H1 → if b = true then u D0 σ H1 else r D0 σ H1) : tIfS t u r D0 σ H := h H (Evl.Ex.refl _) _ fun H1 e1 => k H1 e1
theorem ts_ifseq {b : Bool} {t : TT} {u r w : TS} {D0 : Ends} (h : EvB t σ H b) (k : ∀ H1, Ex H H1 → if b = true then u { D0 with nx := w D0 } σ H1 else r { D0 with nx := w D0 } σ H1) : tSeq (tIfS t u r) w D0 σ H := h H (Evl.Ex.refl _) _ fun H1 e1 => k H1 e1
theorem ts_ret {te : TE} {d : D} {D0 : Ends} (h : EvD K S te σ H d) (q : ∀ v H1, Ex H H1 → Rp K S H1 v d → D0.rt v H1) : tRet te D0 σ H := h H (Evl.Ex.refl _) _ q
theorem ts_set {te : TE} {i : Nat} {d : D} {r : TS} {D0 : Ends} (h : EvD K S te σ H d) (q : ∀ v H1, Ex H H1 → Rp K S H1 v d → r D0 (σ.set i (some v)) H1) : tSeq (tAsg te (gName i)) r D0 σ H := h H (Evl.Ex.refl _) _ q
theorem ts_forseq {wi : TI} {g : TG} {tb r : TS} {E : Ends} {ds : List D} (hi : EvI K S wi σ H ds)
    (h : ∀ H2, Ex H H2 → ∃ Pv : Nat → L2.St → Hp → Prop, Pv 0 σ H2 ∧ (∀ i σ' H', Pv i σ' H' → ∃ S', Mem S' H' ∧ Up K S H2 S' H') ∧
      (∀ i d σ' H', ds[i]? = some d → Pv i σ' H' → ∀ x H'', Ex H' H'' → (∀ S', Mem S' H' → Up K S H2 S' H' → Rp K S' H'' x d) → g x σ' H'' fun σ2 H3 => tb { E with nx := Pv (i + 1), ct := Pv (i + 1), bk := r E } σ2 H3) ∧
      (∀ σ' H', Pv ds.length σ' H' → r E σ' H')) : tSeq (tFor wi g tb) r E σ H := ts_for (E := { E with nx := r E }) hi h
theorem pr_need (vs : List V) (H : Hp) (Q : VK) (E : XK) (h : spNeed K A vs H Q E) : t_need_steps K A E (spListed K) (spStep K) (spFixed K 13) { nx := fun _ H' => Q .non H', rt := Q } (start ["program", "at", "value"] vs) H := by
  obtain ⟨S, dd, hl, m, r, ⟨d, rfl, hin⟩, q⟩ := h
  obtain ⟨v, rfl, r1⟩ := r.one
  have hbase : d.base = true := by cases d <;> first | rfl | cases hin
  have hlisted : EvB (tB (tCall (spListed K) [] E0 (tCons (tVar 0) tNil))) [some v, none, none] H d.isLT := eb_B (ev_pure m (ea_cons m (ev_var m rfl r1) ea_nil) rfl ⟨d, rfl, hbase⟩)
  replace q : (match needD A d with
    | .inr d => ∀ v H', Ex H H' → Rp K S H' v d → Q v H'
    | .inl x => ∀ p H', Ex H H' → H p = none → H' p = some (.xd x.2) → E (.ref x.1) (some p) H') := q
  unfold needD at q
  show t_need_steps K A E (spListed K) (spStep K) (spFixed K 13) { nx := fun _ H' => Q .non H', rt := Q } [some v, none, none] H
  refine ts_ifseq (eb_not hlisted) fun H1 e1 => ?_
  have m1 := m.ex e1
  by_cases hT : d.isLT = true
  · rw [hT, if_neg (by decide)]
    rw [if_pos hT] at q
    obtain ⟨ds, hq⟩ : ∃ ds, SeqD d ds := by cases d <;> first | exact ⟨_, .inl rfl⟩ | exact ⟨_, .inr rfl⟩ | cases hT
    have hit : itemsOfD d = ds := by rcases hq with rfl | rfl <;> rfl
    rw [hit] at q
    have hin' : (∀ e ∈ ds, stepIn e = true ∧ okF e = true ∧ dep e ≤ 10) ∧ ds.length ≤ 1000 := by
      rcases hq with rfl | rfl <;> (simp only [progIn, Bool.and_eq_true, List.all_eq_true, decide_eq_true_eq] at hin; exact ⟨fun e he => ⟨(hin.1 e he).1.1, (hin.1 e he).1.2, (hin.1 e he).2⟩, hin.2⟩)
    have hi := ei_enum m1 (ea_cons m1 (ev_var (σ := [some v, none, none]) (i := 0) m1 rfl (r1.mono (.of m e1))) ea_nil) (walks_Q hq)
    rw [items_Q hq] at hi
    refine ts_forseq (E := { nx := fun _ H' => Q .non H', rt := Q }) hi fun H2 e2 => ?_
    have m2 := m1.ex e2
    refine ⟨fun i σ' H' => Ex H2 H' ∧ (∃ a b, σ' = [some v, a, b]) ∧ ∀ j d, j < i → ds[j]? = some d → isStepD d = true, ⟨Evl.Ex.refl _, ⟨none, none, rfl⟩, fun j d hj => by omega⟩, fun i σ' H' p => ⟨S, m2.ex p.1, Up.ex m2 p.1⟩, ?_, ?_⟩
    · rintro i dd σ' H' hd ⟨p1, ⟨a, b, rfl⟩, p3⟩ x H'' ex hx
      obtain ⟨e, he, rfl⟩ := mapIdx_get hd
      have m3 := m2.ex p1
      have m4 := m3.ex ex
      have rx := hx S m3 (Up.ex m2 p1)
      have hei := hin'.1 e (List.mem_of_getElem? he)
      refine g2_of rx fun vi ve ri re => ?_
      have hstep : EvB (tB (tCall (spStep K) [] E0 (tCons (tVar 2) tNil))) [some v, some vi, some ve] H'' (isStepD e) := eb_B (ev_pure m4 (ea_cons m4 (ev_var m4 rfl re) ea_nil) rfl ⟨e, rfl, hei.1⟩)
      refine ts_if (eb_not hstep) fun H5 e5 => ?_
      have eAll : Ex H H5 := ((((e1.trans e2).trans p1).trans ex).trans e5)
      by_cases hs : isStepD e = true
      · rw [hs, if_neg (by decide)]
        refine ⟨(p1.trans ex).trans e5, ⟨_, _, rfl⟩, fun j d hj hdj => ?_⟩
        rcases Nat.lt_succ_iff_lt_or_eq.mp hj with hj | rfl
        · exact p3 j d hj hdj
        · rw [he] at hdj; cases hdj; exact hs
      · have hs' : isStepD e = false := by simpa using hs
        rw [hs', if_pos (by decide)]
        have hbad : badAt ds = some i := by
          cases hb : badAt ds with
          | none => exact absurd (badAt_none.mp hb e (List.mem_of_getElem? he)) hs
          | some k =>
            obtain ⟨k1, ⟨dk, k2, k3⟩, k4⟩ := badAt_some hb
            rcases Nat.lt_trichotomy k i with z | z | z
            · rw [p3 k dk z k2] at k3; cases k3
            · rw [z]
            · exact absurd (k4 i e z he) hs
        rw [hbad] at q
        have hil : i < ds.length := (List.getElem?_eq_some_iff.mp he).1
        refine ts_raise (is := [(i : Int)]) (ea_cons (m4.ex e5) (ev_var (m4.ex e5) rfl (ri.mono (.of m4 e5))) ea_nil) rfl (fun k hk => ?_) fun p H6 e6 hp h6 => q p H6 (eAll.trans e6) ?_ h6
        · have hk' : k = (i : Int) := by simpa using hk
          rw [hk']; exact small_nat (by omega)
        · cases z : H p with
          | none => rfl
          | some o => rw [eAll _ _ z] at hp; cases hp
    · rintro σ' H' ⟨p1, ⟨a, b, rfl⟩, p3⟩
      have eAll : Ex H H' := ((e1.trans e2).trans p1)
      have hnone : badAt ds = none := badAt_none.mpr fun e he => by
        obtain ⟨j, hj, hj2⟩ := List.mem_iff_getElem.mp he
        exact p3 j e (by simpa using hj) (by rw [List.getElem?_eq_getElem hj, hj2])
      rw [hnone] at q
      have m3 := m.ex eAll
      have hok : okF d = true := by
        have hall : okFA ds = true := by
          have : ∀ l : List D, (∀ e ∈ l, okF e = true) → okFA l = true := by
            intro l
            induction l with
            | nil => intro _; rfl
            | cons x l ih => intro h; rw [okFA, h x List.mem_cons_self, ih fun e he => h e (List.mem_cons_of_mem _ he)]; rfl
          exact this ds fun e he => (hin'.1 e he).2.1
        rcases hq with rfl | rfl <;> (show (decide (ds.length ≤ 100000) && okFA ds) = true; rw [hall, decide_eq_true (by omega)]; rfl)
      have hdep : dep d < 13 := by
        have hall : depA ds ≤ 10 := by
          have : ∀ l : List D, (∀ e ∈ l, dep e ≤ 10) → depA l ≤ 10 := by
            intro l
            induction l with
            | nil => intro _; exact Nat.zero_le _
            | cons x l ih => intro h; exact Nat.max_le.mpr ⟨h x List.mem_cons_self, ih fun e he => h e (List.mem_cons_of_mem _ he)⟩
          exact this ds fun e he => (hin'.1 e he).2.2
        rcases hq with rfl | rfl <;> (show depA ds + 1 < 13; omega)
      exact ts_ret (ev_pure m3 (ea_cons m3 (ev_var m3 rfl (r1.mono (.of m eAll))) ea_nil) rfl ⟨d, rfl, hok, hdep⟩) fun u H6 e6 r6 => q u H6 (eAll.trans e6) r6
  · have hT' : d.isLT = false := by simpa using hT
    rw [hT', if_pos (by decide)]
    rw [if_neg hT] at q
    have hneg : EvD K S (tUn rNeg (tC (.int 1))) [some v, none, none] H1 (.int (-1)) := fun H2 e2 Q q => ⟨1, rfl, q _ H2 (Evl.Ex.refl _) (.int _)⟩
    refine ts_raise (is := [-1]) (ea_cons m1 hneg ea_nil) rfl (fun k hk => ?_) fun p H6 e6 hp h6 => q p H6 (e1.trans e6) ?_ h6
    · have hk' : k = -1 := by simpa using hk
      rw [hk']; decide +kernel
    · cases z : H p with
      | none => rfl
      | some o => rw [e1 _ _ z] at hp; cases hp
end
end Nv
set_option Elab.async false
set_option linter.all false
set_option maxRecDepth 100000
set_option maxHeartbeats 4000000
/-! Promises: program_text. -/
namespace Nv
open PySem PySem.Spec PyProof.Rows L2 StX NvZ
section
variable {K : PySem.W.Frag} {A : Ads} {S : Addr → Prop} {σ : L2.St} {H : Hp} {E : XK}
theorem cx_pure {n : Nat} {pre : List D → Prop} {f : List D → Addr × List (Str × V) ⊕ D} {ta : TA} {ds : List D} {Q : VK} (m : Mem S H) (h : EvA K S ta σ H ds) (hn : ds.length = n) (hp : pre ds)
    (q : match f ds with
      | .inr d => ∀ v H', Ex H H' → Rp K S H' v d → Q v H'
      | .inl x => ∀ p H', Ex H H' → H p = none → H' p = some (.xd x.2) → E (.ref x.1) (some p) H') : tCall (PureX K n pre f) [] E ta σ H Q := h H (Evl.Ex.refl _) _ fun vs H1 e1 r1 => by
  refine ⟨S, ds, hn, m.ex e1, by rw [List.append_nil]; exact r1, hp, ?_⟩
  cases hf : f ds with
  | inr d =>
    rw [hf] at q
    exact fun v H' e r => q v H' (e1.trans e) r
  | inl x =>
    rw [hf] at q
    refine fun p H' e hp h6 => q p H' (e1.trans e) ?_ h6
    cases z : H p with
    | none => rfl
    | some o => rw [e1 _ _ z] at hp; cases hp
theorem ts_setk {te : TE} {i : Nat} {r : TS} {D0 : Ends} (h : te σ H fun v H1 => r D0 (σ.set i (some v)) H1) : tSeq (tAsg te (gName i)) r D0 σ H := h
/-- the text of a program -/
def progText : List D → Str
  | [] => "-"
  | d :: ds => Txt.join "\n" ((d :: ds).map fun d => textOf (itemsOfD d))
def textD (A : Ads) (d : D) : Addr × List (Str × V) ⊕ D := match needD A d with
  | .inl x => .inl x
  | .inr t => .inr (.str (progText (itemsOfD t)))
theorem fix_part {d : D} (h : PartIs d) : fixD d = d := by
  rcases h with rfl | ⟨i, rfl, _⟩ <;> rfl
theorem fix_step {ds : List D} (h : stepL ds = true) : fixA ds = ds := by
  obtain ⟨w, f, ps, rfl, _, _, _, _, _, hps⟩ := step_parts h
  have : ∀ l : List D, (∀ p ∈ l, PartIs p) → fixA l = l := by
    intro l
    induction l with
    | nil => intro _; rfl
    | cons x l ih => intro h; rw [fixA, fix_part (h x List.mem_cons_self), ih fun e he => h e (List.mem_cons_of_mem _ he)]
  rw [fixA, this ps hps]
  rfl
theorem fix_isStep {d : D} (h : isStepD d = true) : isStepT (fixD d) ∧ itemsOfD (fixD d) = itemsOfD d := by
  cases d with
  | lst ds => exact ⟨⟨ds, by rw [fixD, fix_step h], h⟩, by rw [fixD, fix_step h] <;> rfl⟩
  | tup ds => exact ⟨⟨ds, by rw [fixD, fix_step h], h⟩, by rw [fixD, fix_step h]⟩
  | _ => cases h
theorem need_inr {d t : D} (hin : progIn d = true) (h : needD A d = .inr t) : ∃ ds, SeqD d ds ∧ t = .tup (ds.map fixD) ∧ (∀ e ∈ ds, isStepD e = true) ∧ ds.length ≤ 1000 := by
  unfold needD at h
  by_cases hT : d.isLT = true
  · rw [if_pos hT] at h
    obtain ⟨ds, hq⟩ : ∃ ds, SeqD d ds := by cases d <;> first | exact ⟨_, .inl rfl⟩ | exact ⟨_, .inr rfl⟩ | cases hT
    have hit : itemsOfD d = ds := by rcases hq with rfl | rfl <;> rfl
    rw [hit] at h
    cases hb : badAt ds with
    | some i => rw [hb] at h; cases h
    | none =>
      rw [hb] at h
      have ht : fixD d = t := by injection h
      refine ⟨ds, hq, ?_, badAt_none.mp hb, ?_⟩
      · rw [← ht]
        rcases hq with rfl | rfl <;> rw [fixD, fixA_map]
      · rcases hq with rfl | rfl <;> (simp only [progIn, Bool.and_eq_true, decide_eq_true_eq] at hin; exact hin.2)
  · rw [if_neg hT] at h; cases h
abbrev spProgText (K : PySem.W.Frag) (A : Ads) : Sp := PureX K 1 (in1 fun d => progIn d = true) (at1X (textD A))
theorem pr_progtext (vs : List V) (H : Hp) (Q : VK) (E : XK) (h : spProgText K A vs H Q E) : t_program_text K A E (spNeed K A) (spText K) { nx := fun _ H' => Q .non H', rt := Q } (start ["program", "told", "step"] vs) H := by
  obtain ⟨S, dd, hl, m, r, ⟨d, rfl, hin⟩, q⟩ := h
  obtain ⟨v, rfl, r1⟩ := r.one
  replace q : (match textD A d with
    | .inr d => ∀ v H', Ex H H' → Rp K S H' v d → Q v H'
    | .inl x => ∀ p H', Ex H H' → H p = none → H' p = some (.xd x.2) → E (.ref x.1) (some p) H') := q
  show t_program_text K A E (spNeed K A) (spText K) { nx := fun _ H' => Q .non H', rt := Q } [some v, none, none] H
  refine ts_setk (cx_pure m (ea_cons m (ev_var m rfl r1) ea_nil) rfl ⟨d, rfl, hin⟩ ?_)
  show (match needD A d with
    | .inr d => ∀ v H', Ex H H' → Rp K S H' v d → _
    | .inl x => ∀ p H', Ex H H' → H p = none → H' p = some (.xd x.2) → E (.ref x.1) (some p) H')
  unfold textD at q
  cases hn : needD A d with
  | inl x =>
    rw [hn] at q
    exact q
  | inr t =>
    rw [hn] at q
    intro u H1 e1 ru
    obtain ⟨ds, hq, rfl, hall, hz⟩ := need_inr hin hn
    have m1 := m.ex e1
    have hlen : EvB (tTest (tOp rGtI (tCB (rLenV K) (tCons (tVar 1) tNil)) (tC (.int 0)))) [some v, some u, none] H1 (decide ((0 : Int) < (ds.map fixD).length)) := eb_T (ev_op m1 (ev_cb (ea_cons m1 (ev_var (i := 1) m1 rfl ru) ea_nil) (ra_len rfl)) ev_int r_gt)
    cases ds with
    | nil => exact ts_ret (ev_if (b := false) hlen (fun z => by cases z) fun _ => ev_str) fun v H2 e2 r2 => q v H2 (e1.trans e2) r2
    | cons d0 dr =>
      have hi := ei_seq m1 (ev_var (σ := [some v, some u, none]) (i := 1) m1 rfl ru) rfl
      have hmem : ∀ e ∈ items (.tup ((d0 :: dr).map fixD)), isStepT e := fun e he => by
        obtain ⟨x, hx, rfl⟩ := List.mem_map.mp (show e ∈ (d0 :: dr).map fixD from he)
        exact (fix_isStep (hall x hx)).1
      have hlc := ev_map (i := 2) (te := tCall (spText K) [] E0 (tCons (tVar 2) tNil)) (f := fun d => .str (textOf (itemsOfD d))) m1 hi (by show ((d0 :: dr).map fixD).length ≤ _; rw [List.length_map]; omega) fun S' H' m' up ex x e he rx => by
        refine ⟨rfl, ?_⟩
        exact ev_pure m' (ea_cons m' (ev_var m' rfl rx) ea_nil) rfl ⟨e, rfl, hmem e he⟩
      have hstrs : (items (.tup ((d0 :: dr).map fixD))).map (fun d => D.str (textOf (itemsOfD d))) = (((d0 :: dr).map fixD).map fun d => textOf (itemsOfD d)).map D.str := by
        show ((d0 :: dr).map fixD).map _ = _
        rw [List.map_map (f := fun d => textOf (itemsOfD d)) (g := D.str)]
        rfl
      rw [hstrs] at hlc
      have hsz : ((((d0 :: dr).map fixD).map fun d => textOf (itemsOfD d)).map (·.length)).sum ≤ (((d0 :: dr).map fixD).map fun d => textOf (itemsOfD d)).length * 24 := sum_le fun x hx => by
        obtain ⟨e, he, rfl⟩ := List.mem_map.mp hx
        obtain ⟨es, rfl, hes⟩ := hmem e he
        exact text_short hes
      have e1n : ("\n" : Str).length = 1 := by decide +kernel
      rw [List.length_map, List.length_map] at hsz
      refine ts_ret (ev_if (b := true) (hlen.is (by simp)) (fun _ => ev_join m1 ev_str hlc (by rw [e1n, List.length_map, List.length_map]; omega)) fun z => by cases z) fun v H2 e2 r2 => q v H2 (e1.trans e2) r2
end
end Nv
set_option Elab.async false
set_option linter.all false
set_option maxRecDepth 100000
set_option maxHeartbeats 4000000
/-! Promises: the scan. -/
namespace Nv
open PySem PySem.Spec PyProof.Rows L2 StX NvZ
def linesD (ls : List (List Str)) : D := .lst (ls.map fun ws => .lst (ws.map D.str))
def scanF (vl : V) (l a : Nat) : List (Str × V) := [("lines", vl), ("line", .int l), ("at", .int a)]
def ScanAt (K : PySem.W.Frag) (A : Ads) (S : Addr → Prop) (H : Hp) (q : Addr) (ls : List (List Str)) (l a : Nat) : Prop :=
  S q ∧ ∃ dx vl, H q = some (.ins A.cScan dx (scanF vl l a)) ∧ Rp K S H vl (linesD ls)
structure Sx (A : Ads) (K : PySem.W.Frag) : Prop where
  cl : Cls K A.cScan
  nLines : NoAttr K A.cScan "lines"
  nLine : NoAttr K A.cScan "line"
  nAt : NoAttr K A.cScan "at"
def aheadO (ls : List (List Str)) (l a : Nat) : Option Str := if l = ls.length then none else (ls.getD l [])[a]?
def wv : Option Str → V
  | none => .non
  | some w => .str w
def wD : Option Str → D
  | none => .non
  | some w => .str w
/-- a scan's place -/
structure Plc (ls : List (List Str)) (l a : Nat) : Prop where
  many : ls.length ≤ 1000
  each : ∀ ws ∈ ls, ws.length ≤ 1000 ∧ ∀ w ∈ ws, wdB w = true
  lok : l ≤ ls.length
  aok : l < ls.length → a ≤ (ls.getD l []).length
  aa : a ≤ 1001
def Ex1 (q : Addr) (H H' : Hp) : Prop := ∀ b o, b ≠ q → H b = some o → H' b = some o
def Stops (A : Ads) (H : Hp) (l a : Nat) (E : XK) : Prop := ∀ p H', Ex H H' → H p = none → H' p = some (.xd [("line", .int l), ("word", .int a)]) → E (.ref A.cBadText) (some p) H'
section
variable {K : PySem.W.Frag} {A : Ads} {S : Addr → Prop} {σ : L2.St} {H H' : Hp} {E : XK} {q : Addr} {ls : List (List Str)} {l a : Nat}
theorem Ex.ex1 (e : Ex H H') : Ex1 q H H' := fun b o _ h => e b o h
theorem Ex1.refl : Ex1 q H H := fun _ _ _ h => h
theorem Ex1.trans {H2 : Hp} (e : Ex1 q H H') (f : Ex1 q H' H2) : Ex1 q H H2 := fun b o n h => f b o n (e b o n h)
theorem Ex1.exS (m : Mem S H) (hq : S q) (e : Ex1 q H H') (h : ∃ o, H' q = some o) : ExS S H H' := ⟨fun b o n h => e b o (fun z => n (z ▸ hq)) h, fun b s => by
  by_cases z : b = q
  · rw [z]; exact h
  · obtain ⟨o, ho⟩ := m b s
    exact ⟨o, e b o z ho⟩⟩
theorem Stops.mono (h : Stops A H l a E) (e : Ex H H') : Stops A H' l a E := fun p H2 e2 hp h2 => h p H2 (e.trans e2) (by
  cases z : H p with
  | none => rfl
  | some o => rw [e _ _ z] at hp; cases hp) h2
theorem ScanAt.ex (m : Mem S H) (e : Ex H H') (h : ScanAt K A S H q ls l a) : ScanAt K A S H' q ls l a := by
  obtain ⟨s, dx, vl, h1, h2⟩ := h
  exact ⟨s, dx, vl, e _ _ h1, h2.mono (.of m e)⟩
theorem ev_fld {i : Nat} {f : Str} {C dx : Addr} {fs : List (Str × V)} {v : V} {d : D} (m : Mem S H) (hσ : σ[i]? = some (some (.ref q))) (hq : H q = some (.ins C dx fs)) (cl : Cls K C) (na : NoAttr K C f) (lk : fs.lookup f = some v) (r : Rp K S H v d) : EvD K S (tFld K (tVar i) f) σ H d :=
  fun H1 e Q k => ⟨.ref q, hσ, q, C, dx, fs, v, rfl, e _ _ hq, cl, na, lk, k v H1 (Evl.Ex.refl _) (r.mono (.of m e))⟩
theorem ev_lines {i : Nat} (X : Sx A K) (m : Mem S H) (hσ : σ[i]? = some (some (.ref q))) (h : ScanAt K A S H q ls l a) : EvD K S (tFld K (tVar i) "lines") σ H (linesD ls) := by
  obtain ⟨s, dx, vl, h1, h2⟩ := h
  exact ev_fld m hσ h1 X.cl X.nLines rfl h2
theorem ev_line {i : Nat} (X : Sx A K) (m : Mem S H) (hσ : σ[i]? = some (some (.ref q))) (h : ScanAt K A S H q ls l a) : EvD K S (tFld K (tVar i) "line") σ H (.int l) := by
  obtain ⟨s, dx, vl, h1, h2⟩ := h
  exact ev_fld m hσ h1 X.cl X.nLine rfl (.int _)
theorem ev_at {i : Nat} (X : Sx A K) (m : Mem S H) (hσ : σ[i]? = some (some (.ref q))) (h : ScanAt K A S H q ls l a) : EvD K S (tFld K (tVar i) "at") σ H (.int a) := by
  obtain ⟨s, dx, vl, h1, h2⟩ := h
  exact ev_fld m hσ h1 X.cl X.nAt rfl (.int _)
/-! ### is_over -/
def spOver (K : PySem.W.Frag) (A : Ads) : Sp := fun vs H Q _ => ∃ S q ls l a, vs = [.ref q] ∧ Mem S H ∧ ScanAt K A S H q ls l a ∧ ∀ H', Ex H H' → Q (.bl (decide (l = ls.length))) H'
theorem pr_over (X : Sx A K) (vs : List V) (H : Hp) (Q : VK) (E : XK) (h : spOver K A vs H Q E) : t_Scan_is_over K A E { nx := fun _ H' => Q .non H', rt := Q } (start ["self"] vs) H := by
  obtain ⟨S, q, ls, l, a, rfl, m, hs, k⟩ := h
  refine ts_ret (K := K) (S := S) (d := .bl (decide (l = ls.length))) ((ev_op m (ev_line X m rfl hs) (ev_cb (ea_cons m (ev_lines X m rfl hs) ea_nil) (ra_len rfl)) (r_eqD rfl rfl (Nat.zero_le _) (Nat.zero_le _))).is ?_) fun v H1 e1 r1 => ?_
  · rw [eqD_int]
    show D.bl (decide ((l : Int) = (lenD (linesD ls) : Nat))) = D.bl (decide (l = ls.length))
    have : lenD (linesD ls) = ls.length := by show (ls.map _).length = _; rw [List.length_map]
    rw [this, decide_eq_decide.mpr Int.ofNat_inj]
  · cases r1; exact k H1 e1
theorem ev_over {i : Nat} (m : Mem S H) (hσ : σ[i]? = some (some (.ref q))) (h : ScanAt K A S H q ls l a) : EvD K S (tMeth A.cScan "is_over" (spOver K A) [] E0 (tVar i) tNil) σ H (.bl (decide (l = ls.length))) := fun H1 e Q k => by
  obtain ⟨s, dx, vl, h1, h2⟩ := id (h.ex m e)
  exact ⟨.ref q, hσ, q, dx, _, rfl, h1, rfl, S, q, ls, l, a, rfl, m.ex e, h.ex m e, fun H2 e2 => k _ H2 e2 (.bl _)⟩
/-! ### ahead -/
def spAhead (K : PySem.W.Frag) (A : Ads) : Sp := fun vs H Q _ => ∃ S q ls l a, vs = [.ref q] ∧ Mem S H ∧ ScanAt K A S H q ls l a ∧ Plc ls l a ∧ ∀ H', Ex H H' → Q (wv (aheadO ls l a)) H'
theorem line_get (hl : l < ls.length) : (ls.map fun ws => D.lst (ws.map D.str))[l]? = some (.lst ((ls.getD l []).map D.str)) := by
  rw [List.getElem?_map, List.getElem?_eq_getElem hl]
  simp [List.getD, hl]
theorem getD_mem (hl : l < ls.length) : ls.getD l [] ∈ ls := by
  simp only [List.getD, List.getElem?_eq_getElem hl, Option.getD_some]
  exact List.getElem_mem hl
theorem pr_ahead (X : Sx A K) (vs : List V) (H : Hp) (Q : VK) (E : XK) (h : spAhead K A vs H Q E) : t_Scan_ahead K A E (spOver K A) { nx := fun _ H' => Q .non H', rt := Q } (start ["self"] vs) H := by
  obtain ⟨S, q, ls, l, a, rfl, m, hs, P, k⟩ := h
  show t_Scan_ahead K A E (spOver K A) { nx := fun _ H' => Q .non H', rt := Q } [some (.ref q)] H
  have ov : EvB (tB (tMeth A.cScan "is_over" (spOver K A) [] E0 (tVar 0) tNil)) [some (.ref q)] H (decide (l = ls.length)) := eb_B (ev_over m rfl hs)
  by_cases hl : l = ls.length
  · refine ts_ifseq (b := true) ((eb_or (b := true) ov fun z => by rw [decide_eq_true hl] at z; cases z).is (by rw [decide_eq_true hl]; rfl)) fun H1 e1 => ?_
    rw [if_pos rfl]
    refine ts_ret (K := K) (S := S) ev_non fun v H2 e2 r2 => ?_
    cases r2
    have : aheadO ls l a = none := if_pos hl
    rw [this] at k
    exact k H2 (e1.trans e2)
  · have hlt : l < ls.length := Nat.lt_of_le_of_ne P.lok hl
    have ln : EvD K S (tOp (rIx K) (tFld K (tVar 0) "lines") (tFld K (tVar 0) "line")) [some (.ref q)] H (.lst ((ls.getD l []).map D.str)) := ev_op m (ev_lines X m rfl hs) (ev_line X m rfl hs) (r_ixL (line_get hlt))
    have hat : EvB (tTest (tOp (rEqD K) (tFld K (tVar 0) "at") (tCB (rLenV K) (tCons (tOp (rIx K) (tFld K (tVar 0) "lines") (tFld K (tVar 0) "line")) tNil)))) [some (.ref q)] H (decide (a = (ls.getD l []).length)) := by
      refine (eb_T (ev_op m (ev_at X m rfl hs) (ev_cb (ea_cons m ln ea_nil) (ra_len rfl)) (r_eqD rfl rfl (Nat.zero_le _) (Nat.zero_le _)))).is ?_
      rw [eqD_int]
      show decide ((a : Int) = (((ls.getD l []).map D.str).length : Nat)) = _
      rw [List.length_map, decide_eq_decide.mpr Int.ofNat_inj]
    have ah : aheadO ls l a = (ls.getD l [])[a]? := if_neg hl
    refine ts_ifseq (b := decide (a = (ls.getD l []).length)) ((eb_or ov fun _ => hat).is (by rw [decide_eq_false hl, Bool.false_or])) fun H1 e1 => ?_
    by_cases ha : a = (ls.getD l []).length
    · rw [decide_eq_true ha, if_pos rfl]
      refine ts_ret (K := K) (S := S) ev_non fun v H2 e2 r2 => ?_
      cases r2
      have : aheadO ls l a = none := by rw [ah]; exact List.getElem?_eq_none (by omega)
      rw [this] at k
      exact k H2 (e1.trans e2)
    · rw [decide_eq_false ha, if_neg Bool.false_ne_true]
      have hat2 : a < (ls.getD l []).length := by have := P.aok hlt; omega
      obtain ⟨w, hw⟩ : ∃ w, (ls.getD l [])[a]? = some w := ⟨_, List.getElem?_eq_getElem hat2⟩
      refine ts_ret ((ev_op m ln (ev_at X m rfl hs) (r_ixL (d := .str w) (by rw [List.getElem?_map, hw]; rfl))).mono e1) fun v H2 e2 r2 => ?_
      cases r2
      rw [ah, hw] at k
      exact k H2 (e1.trans e2)
theorem ev_ahead {i : Nat} (m : Mem S H) (hσ : σ[i]? = some (some (.ref q))) (h : ScanAt K A S H q ls l a) (P : Plc ls l a) : EvD K S (tMeth A.cScan "ahead" (spAhead K A) [] E0 (tVar i) tNil) σ H (wD (aheadO ls l a)) := fun H1 e Q k => by
  obtain ⟨s, dx, vl, h1, h2⟩ := id (h.ex m e)
  refine ⟨.ref q, hσ, q, dx, _, rfl, h1, rfl, S, q, ls, l, a, rfl, m.ex e, h.ex m e, P, fun H2 e2 => k _ H2 e2 ?_⟩
  cases aheadO ls l a with
  | none => exact .non
  | some w => exact .str w
/-! ### stop -/
def spStop (K : PySem.W.Frag) (A : Ads) : Sp := fun vs H _ E => ∃ S q ls l a, vs = [.ref q] ∧ Mem S H ∧ ScanAt K A S H q ls l a ∧ Plc ls l a ∧ Stops A H l a E
theorem pr_stop (X : Sx A K) (vs : List V) (H : Hp) (Q : VK) (E : XK) (h : spStop K A vs H Q E) : t_Scan_stop K A E { nx := fun _ H' => Q .non H', rt := Q } (start ["self"] vs) H := by
  obtain ⟨S, q, ls, l, a, rfl, m, hs, P, k⟩ := h
  have P1 := P.lok
  have P2 := P.many
  have P3 := P.aa
  refine ts_raise (is := [(l : Int), (a : Int)]) (ea_cons m (ev_line X m rfl hs) (ea_cons m (ev_at X m rfl hs) ea_nil)) rfl (fun i hi => ?_) fun p H' e hp h' => k p H' e hp h'
  have : i = (l : Int) ∨ i = (a : Int) := by simpa using hi
  rcases this with rfl | rfl <;> exact small_nat (by omega)
theorem td_stop {i : Nat} {r : TS} {D0 : Ends} (m : Mem S H) (hσ : σ[i]? = some (some (.ref q))) (h : ScanAt K A S H q ls l a) (P : Plc ls l a) (k : Stops A H l a E) : tDrop (tMeth A.cScan "stop" (spStop K A) [] E (tVar i) tNil) D0 σ H := by
  obtain ⟨s, dx, vl, h1, h2⟩ := id h
  exact ⟨.ref q, hσ, q, dx, _, rfl, h1, rfl, S, q, ls, l, a, rfl, m, h, P, k⟩
/-! ### the stores -/
theorem scan_put {vl : V} {dx : Addr} (m : Mem S H) (hq : S q) (r : Rp K S H vl (linesD ls)) (l a : Nat) : ScanAt K A S (upd H q (.ins A.cScan dx (scanF vl l a))) q ls l a := ⟨hq, dx, vl, upd_same, r.mono (ExS.put m hq)⟩
theorem ex1_put {o : HO} : Ex1 q H (upd H q o) := fun b u n h => by rw [upd_ne n]; exact h
theorem ts_at {i : Nat} {r : TS} {D0 : Ends} (X : Sx A K) (m : Mem S H) (hσ : σ[i]? = some (some (.ref q))) (h : ScanAt K A S H q ls l a) (k : ∀ H', Ex1 q H H' → Mem S H' → ScanAt K A S H' q ls l (a + 1) → r D0 σ H') : tSeq (sFldAug K (tVar i) (tC (.int 1)) rAdd "at") r D0 σ H := by
  obtain ⟨s, dx, vl, h1, h2⟩ := id h
  have e : putF "at" (.int ((a : Int) + 1)) (scanF vl l a) = scanF vl l (a + 1) := by
    show putF "at" _ [("lines", vl), ("line", .int l), ("at", .int a)] = _
    rfl
  refine ⟨.ref q, hσ, q, A.cScan, dx, _, .int a, rfl, h1, X.cl, X.nAt, rfl, a, 1, rfl, rfl, dx, _, h1, by show 3 < 1000; decide, ?_⟩
  show r D0 σ (upd H q (.ins A.cScan dx (putF "at" (.int ((a : Int) + 1)) (scanF vl l a))))
  rw [e]
  exact k _ ex1_put (ExS.put m s).mem (scan_put m s h2 l (a + 1))
/-! ### take_of -/
def spTakeOf (K : PySem.W.Frag) (A : Ads) : Sp := fun vs H Q E => ∃ S q ls l a vw ws, vs = [.ref q, vw] ∧ Mem S H ∧ ScanAt K A S H q ls l a ∧ Plc ls l a ∧ (Rp K S H vw (.lst (List.map D.str ws)) ∨ Rp K S H vw (.tup (List.map D.str ws))) ∧
  match aheadO ls l a with
  | some w => if w ∈ ws then (∀ H', Ex1 q H H' → ScanAt K A S H' q ls l (a + 1) → Q (.str w) H') else Stops A H l a E
  | none => Stops A H l a E
theorem pr_takeof (X : Sx A K) (vs : List V) (H : Hp) (Q : VK) (E : XK) (h : spTakeOf K A vs H Q E) : t_Scan_take_of K A E (spAhead K A) (spStop K A) { nx := fun _ H' => Q .non H', rt := Q } (start ["self", "words", "word"] vs) H := by
  obtain ⟨S, q, ls, l, a, vw, ws, rfl, m, hs, P, hw, k⟩ := h
  show t_Scan_take_of K A E (spAhead K A) (spStop K A) { nx := fun _ H' => Q .non H', rt := Q } [some (.ref q), some vw, none] H
  refine ts_set (ev_ahead m rfl hs P) fun u H1 e1 ru => ?_
  have m1 := m.ex e1
  have hs1 := hs.ex m e1
  have isn : EvB (tTest (tOp rIsN (tVar 2) (tC .non))) [some (.ref q), some vw, some u] H1 (wD (aheadO ls l a)).isNon := eb_T (ev_op m1 (ev_var (i := 2) m1 rfl ru) ev_non r_isN)
  cases ha : aheadO ls l a with
  | none =>
    rw [ha] at k isn
    refine ts_ifseq (b := true) ((eb_or (b := true) isn fun z => by cases z).is rfl) fun H2 e2 => ?_
    rw [if_pos rfl]
    exact td_stop (r := tNext) (m1.ex e2) rfl (hs1.ex m1 e2) P (Stops.mono k (e1.trans e2))
  | some w =>
    rw [ha] at k isn ru
    have hin : EvB (tTest (tOp (rIn K true) (tVar 2) (tVar 1))) [some (.ref q), some vw, some u] H1 (!decide (w ∈ ws)) := by
      rcases hw with hw | hw
      · exact eb_T (ev_op m1 (ev_var (i := 2) m1 rfl ru) (ev_var (i := 1) m1 rfl (hw.mono (.of m e1))) r_inL)
      · exact eb_T (ev_op m1 (ev_var (i := 2) m1 rfl ru) (ev_var (i := 1) m1 rfl (hw.mono (.of m e1))) r_inT)
    refine ts_ifseq (b := !decide (w ∈ ws)) ((eb_or isn fun _ => hin).is rfl) fun H2 e2 => ?_
    have m2 := m1.ex e2
    have hs2 := hs1.ex m1 e2
    by_cases hm : w ∈ ws
    · replace k : ∀ H', Ex1 q H H' → ScanAt K A S H' q ls l (a + 1) → Q (.str w) H' := by
        have k' : (if w ∈ ws then (∀ H', Ex1 q H H' → ScanAt K A S H' q ls l (a + 1) → Q (.str w) H') else Stops A H l a E) := k
        rwa [if_pos hm] at k'
      rw [decide_eq_true hm, if_neg (by decide)]
      refine ts_at (i := 0) X m2 rfl hs2 fun H3 e3 m3 hs3 => ?_
      cases ru
      exact ⟨_, rfl, k H3 (((Ex.ex1 e1).trans (Ex.ex1 e2)).trans e3) hs3⟩
    · replace k : Stops A H l a E := by
        have k' : (if w ∈ ws then (∀ H', Ex1 q H H' → ScanAt K A S H' q ls l (a + 1) → Q (.str w) H') else Stops A H l a E) := k
        rwa [if_neg hm] at k'
      rw [decide_eq_false hm, if_pos (by decide)]
      exact td_stop (r := tNext) m2 rfl hs2 P (k.mono (e1.trans e2))
/-! ### take_number -/
def spTakeNum (K : PySem.W.Frag) (A : Ads) : Sp := fun vs H Q E => ∃ S q ls l a lo hi, vs = [.ref q, .int lo, .int hi] ∧ Mem S H ∧ ScanAt K A S H q ls l a ∧ Plc ls l a ∧
  match aheadO ls l a with
  | some w => if figB w lo hi = true then (∀ H', Ex1 q H H' → ScanAt K A S H' q ls l (a + 1) → Q (.int (num w)) H') else Stops A H l a E
  | none => Stops A H l a E
theorem ahead_wd (P : Plc ls l a) {w : Str} (h : aheadO ls l a = some w) : wdB w = true := by
  unfold aheadO at h
  by_cases hl : l = ls.length
  · rw [if_pos hl] at h; cases h
  · rw [if_neg hl] at h
    have hlt : l < ls.length := Nat.lt_of_le_of_ne P.lok hl
    exact (P.each _ (getD_mem hlt)).2 w (List.mem_of_getElem? h)
theorem fig_num {w : Str} {lo hi : Int} (hw : wdB w = true) (h : figB w lo hi = true) : PySem.intText? w = some (num w) ∧ w.length ≤ 100 := by
  have hw' : (PyData.strOk w && decide (w.length ≤ 100) && (!digits w || (decide (w.length = 0) || (PySem.intText? w).isSome))) = true := hw
  simp only [Bool.and_eq_true, Bool.or_eq_true, Bool.not_eq_true', decide_eq_true_eq] at hw'
  obtain ⟨⟨_, hl⟩, hn⟩ := hw'
  refine ⟨?_, hl⟩
  unfold figB at h
  by_cases hc : (!(decide ((1 : Int) ≤ w.length) && decide ((w.length : Int) ≤ 9)) || !digits w) = true
  · rw [if_pos hc] at h; cases h
  · have hc' : (decide ((1 : Int) ≤ w.length) && decide ((w.length : Int) ≤ 9)) = true ∧ digits w = true := by
      have := Bool.not_eq_true _ ▸ hc
      rw [Bool.or_eq_false_iff] at this
      exact ⟨by simpa using this.1, by simpa using this.2⟩
    have h1 : 1 ≤ w.length := by
      have := hc'.1
      simp only [Bool.and_eq_true, decide_eq_true_eq] at this
      omega
    rcases hn with z | z | z
    · rw [hc'.2] at z; cases z
    · omega
    · obtain ⟨n, hn⟩ := Option.isSome_iff_exists.mp z
      unfold num
      rw [hn]; rfl
theorem pr_takenum (X : Sx A K) (vs : List V) (H : Hp) (Q : VK) (E : XK) (h : spTakeNum K A vs H Q E) : t_Scan_take_number K A E (spAhead K A) (spFigure K) (spStop K A) { nx := fun _ H' => Q .non H', rt := Q } (start ["self", "least", "most", "word"] vs) H := by
  obtain ⟨S, q, ls, l, a, lo, hi, rfl, m, hs, P, k⟩ := h
  show t_Scan_take_number K A E (spAhead K A) (spFigure K) (spStop K A) { nx := fun _ H' => Q .non H', rt := Q } [some (.ref q), some (.int lo), some (.int hi), none] H
  refine ts_set (ev_ahead m rfl hs P) fun u H1 e1 ru => ?_
  have m1 := m.ex e1
  have hs1 := hs.ex m e1
  have wok : wordD (wD (aheadO ls l a)) = true := by
    cases ha : aheadO ls l a with
    | none => rfl
    | some w => exact ahead_wd P ha
  have hfig : EvB (tB (tCall (spFigure K) [] E0 (tCons (tVar 3) (tCons (tVar 1) (tCons (tVar 2) tNil))))) [some (.ref q), some (.int lo), some (.int hi), some u] H1 (figD (wD (aheadO ls l a)) lo hi) :=
    eb_B (ev_pure m1 (ea_cons m1 (ev_var (i := 3) m1 rfl ru) (ea_cons m1 (ev_var (i := 1) m1 rfl (.int lo)) (ea_cons m1 (ev_var (i := 2) m1 rfl (.int hi)) ea_nil))) rfl ⟨_, _, _, rfl, wok, rfl, rfl⟩)
  refine ts_ifseq (eb_not hfig) fun H2 e2 => ?_
  have m2 := m1.ex e2
  have hs2 := hs1.ex m1 e2
  cases ha : aheadO ls l a with
  | none =>
    rw [ha] at k
    rw [if_pos (by rfl)]
    exact td_stop (r := tNext) m2 rfl hs2 P (Stops.mono k (e1.trans e2))
  | some w =>
    rw [ha] at k ru
    show (if (!figB w lo hi) = true then _ else _)
    replace k : (if figB w lo hi = true then (∀ H', Ex1 q H H' → ScanAt K A S H' q ls l (a + 1) → Q (.int (num w)) H') else Stops A H l a E) := k
    by_cases hf : figB w lo hi = true
    · rw [if_pos hf] at k
      rw [hf, if_neg (by decide)]
      refine ts_at (i := 0) X m2 rfl hs2 fun H3 e3 m3 hs3 => ?_
      cases ru
      obtain ⟨hn, hl⟩ := fig_num (ahead_wd P ha) hf
      exact ⟨_, rfl, w, num w, rfl, hn, by omega, k H3 (((Ex.ex1 e1).trans (Ex.ex1 e2)).trans e3) hs3⟩
    · rw [if_neg hf] at k
      rw [show figB w lo hi = false by simpa using hf, if_pos (by decide)]
      exact td_stop (r := tNext) m2 rfl hs2 P (k.mono (e1.trans e2))
/-! ### end_line -/
def spEndLine (K : PySem.W.Frag) (A : Ads) : Sp := fun vs H Q E => ∃ S q ls l a, vs = [.ref q] ∧ Mem S H ∧ ScanAt K A S H q ls l a ∧ Plc ls l a ∧
  if (aheadO ls l a).isSome = true ∨ l = ls.length then Stops A H l a E else ∀ H', Ex1 q H H' → ScanAt K A S H' q ls (l + 1) 0 → Q .non H'
theorem pr_endline (X : Sx A K) (vs : List V) (H : Hp) (Q : VK) (E : XK) (h : spEndLine K A vs H Q E) : t_Scan_end_line K A E (spAhead K A) (spOver K A) (spStop K A) { nx := fun _ H' => Q .non H', rt := Q } (start ["self"] vs) H := by
  obtain ⟨S, q, ls, l, a, rfl, m, hs, P, k⟩ := h
  show t_Scan_end_line K A E (spAhead K A) (spOver K A) (spStop K A) { nx := fun _ H' => Q .non H', rt := Q } [some (.ref q)] H
  have isn : EvB (tTest (tOp rNotN (tMeth A.cScan "ahead" (spAhead K A) [] E0 (tVar 0) tNil) (tC .non))) [some (.ref q)] H (aheadO ls l a).isSome := by
    refine (eb_T (ev_op m (ev_ahead m rfl hs P) ev_non r_notN)).is ?_
    cases aheadO ls l a <;> rfl
  have ov : EvB (tB (tMeth A.cScan "is_over" (spOver K A) [] E0 (tVar 0) tNil)) [some (.ref q)] H (decide (l = ls.length)) := eb_B (ev_over m rfl hs)
  refine ts_ifseq (eb_or isn fun _ => ov) fun H1 e1 => ?_
  have m1 := m.ex e1
  have hs1 := hs.ex m e1
  by_cases hc : (aheadO ls l a).isSome = true ∨ l = ls.length
  · rw [if_pos hc] at k
    rw [if_pos (by rcases hc with h | h; rw [h]; rfl; rw [decide_eq_true h, Bool.or_true])]
    exact td_stop (r := tNext) m1 rfl hs1 P (k.mono e1)
  · rw [if_neg hc] at k
    have h1 : (aheadO ls l a).isSome = false := by
      cases z : (aheadO ls l a).isSome with
      | false => rfl
      | true => exact absurd (.inl z) hc
    rw [if_neg (by rw [h1, decide_eq_false fun z => hc (.inr z)]; exact Bool.false_ne_true)]
    obtain ⟨s, dx, vl, g1, g2⟩ := id hs1
    refine ⟨.ref q, rfl, q, A.cScan, dx, _, .int l, rfl, g1, X.cl, X.nLine, rfl, l, 1, rfl, rfl, dx, _, g1, by show 3 < 1000; decide, ?_⟩
    refine ⟨.ref q, rfl, q, A.cScan, dx, _, rfl, upd_same, X.cl, X.nAt, by show 3 < 1000; decide, ?_⟩
    have e : putF "at" (.int 0) (putF "line" (.int ((l : Int) + 1)) (scanF vl l a)) = scanF vl (l + 1) 0 := rfl
    show Q .non _
    rw [e]
    have x2 : Ex1 q H1 (upd (upd H1 q (.ins A.cScan dx (putF "line" (.int ((l : Int) + 1)) (scanF vl l a)))) q (.ins A.cScan dx (scanF vl (l + 1) 0))) := ex1_put.trans ex1_put
    have m2 : Mem S (upd H1 q (.ins A.cScan dx (putF "line" (.int ((l : Int) + 1)) (scanF vl l a)))) := (ExS.put m1 s).mem
    exact k _ ((Ex.ex1 e1).trans x2) (scan_put m2 s (g2.mono (ExS.put m1 s)) (l + 1) 0)
end
end Nv
set_option Elab.async false
set_option linter.all false
set_option maxRecDepth 100000
set_option maxHeartbeats 4000000
/-! Promises: Scan(..), scan_of, take_of's call. -/
namespace Nv
open PySem PySem.Spec PyProof.Rows L2 StX NvZ
section
variable {K : PySem.W.Frag} {A : Ads} {S : Addr → Prop} {σ : L2.St} {H H' : Hp} {E : XK} {q : Addr} {ls : List (List Str)} {l a : Nat}
def spInit (K : PySem.W.Frag) (A : Ads) : Sp := fun vs H Q _ => ∃ S x dx vl ls, vs = [.ref x, vl] ∧ Mem S H ∧ S x ∧ H x = some (.ins A.cScan dx []) ∧ Rp K S H vl (linesD ls) ∧ ∀ H', Ex1 x H H' → ScanAt K A S H' x ls 0 0 → Q .non H'
theorem pr_init (X : Sx A K) (vs : List V) (H : Hp) (Q : VK) (E : XK) (h : spInit K A vs H Q E) : t_Scan___init__ K A E { nx := fun _ H' => Q .non H', rt := Q } (start ["self", "lines"] vs) H := by
  obtain ⟨S, x, dx, vl, ls, rfl, m, sx, hx, r, k⟩ := h
  have e : putF "at" (.int 0) (putF "line" (.int 0) (putF "lines" vl [])) = scanF vl 0 0 := rfl
  refine ⟨vl, rfl, .ref x, rfl, x, A.cScan, dx, [], rfl, hx, X.cl, X.nLines, by decide, ?_⟩
  refine ⟨.ref x, rfl, x, A.cScan, dx, _, rfl, upd_same, X.cl, X.nLine, by show 1 < 1000; decide, ?_⟩
  refine ⟨.ref x, rfl, x, A.cScan, dx, _, rfl, upd_same, X.cl, X.nAt, by show 2 < 1000; decide, ?_⟩
  show Q .non _
  rw [e]
  have m1 := (ExS.put (o := .ins A.cScan dx (putF "lines" vl [])) m sx)
  have m2 := (ExS.put (o := .ins A.cScan dx (putF "line" (.int 0) (putF "lines" vl []))) m1.mem sx)
  exact k _ ((ex1_put.trans ex1_put).trans ex1_put) (scan_put m2.mem sx ((r.mono m1).mono m2) 0 0)
/-! ### scan_of -/
def linesOf (t : Str) : List (List Str) := (Txt.split t "\n").map fun l => Txt.split l " "
structure TxtOk (t : Str) : Prop where
  ok : PyData.strOk t = true
  len : t.length ≤ 1000000
  many : (Txt.split t "\n").length ≤ 1000
  short : ∀ l ∈ Txt.split t "\n", l.length ≤ 1000000
  each : ∀ ws ∈ linesOf t, ws.length ≤ 1000 ∧ ∀ w ∈ ws, wdB w = true
def textIn : D → Prop
  | .str t => TxtOk t
  | .ins _ => False
  | _ => True
def spScanOf (K : PySem.W.Frag) (A : Ads) : Sp := fun vs H Q E => ∃ S v d, vs = [v] ∧ Mem S H ∧ Rp K S H v d ∧ textIn d ∧
  match d with
  | .str t => ∀ q H', Ex H H' → H q = none → Mem (plus S q) H' → ScanAt K A (plus S q) H' q (linesOf t) 0 0 → Q (.ref q) H'
  | _ => Stops A H 0 0 E
theorem tn_ret {te : TE} {D0 : Ends} (h : te σ H D0.rt) : tNext { D0 with nx := tRet te D0 } σ H := h
theorem mk_one {C : Addr} {sp : Sp} {te : TE} {Q : VK} (h : te σ H fun v H1 => ∀ x dx, H1 x = none → H1 dx = none → dx ≠ x → sp [.ref x, v] (upd (upd H1 dx (.own x)) x (.ins C dx [])) (fun v H2 => v = .non ∧ Q (.ref x) H2) E) : tMake C sp [] E (tCons te tNil) σ H Q := h
theorem pr_scanof (X : Sx A K) (vs : List V) (H : Hp) (Q : VK) (E : XK) (h : spScanOf K A vs H Q E) : t_scan_of K A E (spInit K A) { nx := fun _ H' => Q .non H', rt := Q } (start ["text", "line"] vs) H := by
  obtain ⟨S, v, d, rfl, m, r, hin, k⟩ := h
  show t_scan_of K A E (spInit K A) { nx := fun _ H' => Q .non H', rt := Q } [some v, none] H
  have hb : d.base = true := by cases d <;> first | rfl | exact hin.elim
  have hs : EvB (tB (tCB (rIsi K) (tCons (tVar 0) (tCons (tC (.ty "str")) tNil)))) [some v, none] H d.isStr := eb_B (r_isi (ev_var m rfl r) (okT_base hb) (ki_str hb))
  refine ts_ifseq (eb_not hs) fun H1 e1 => ?_
  have m1 := m.ex e1
  by_cases hd : ∃ t, d = .str t
  · obtain ⟨t, rfl⟩ := hd
    have T : TxtOk t := hin
    rw [if_neg (by show ¬ (!true) = true; decide)]
    have h1 : EvD K S (tM1 rSplit (tVar 0) (tC (.str "\n"))) [some v, none] H1 (.lst ((Txt.split t "\n").map D.str)) := ev_split m1 (ev_var m1 rfl (r.mono (.of m e1))) ev_str (by decide +kernel) (by have := T.len; omega)
    have hlc := ev_map (i := 1) (te := tM1 rSplit (tVar 1) (tC (.str " "))) (f := fun d => match d with | .str x => .lst ((Txt.split x " ").map D.str) | _ => .non) m1 (ei_seq m1 h1 rfl) (by show ((Txt.split t "\n").map D.str).length ≤ _; rw [List.length_map]; have := T.many; omega) fun S' H' m' up ex x d hd rx => by
      obtain ⟨w, hw, rfl⟩ := List.mem_map.mp (show d ∈ (Txt.split t "\n").map D.str from hd)
      refine ⟨rfl, ?_⟩
      exact ev_split m' (ev_var m' rfl rx) ev_str (by decide +kernel) (by have := T.short w hw; omega)
    have e : (items (.lst ((Txt.split t "\n").map D.str))).map (fun d => match d with | .str x => D.lst ((Txt.split x " ").map D.str) | _ => .non) = (linesOf t).map fun ws => .lst (ws.map D.str) := by
      show ((Txt.split t "\n").map D.str).map _ = ((Txt.split t "\n").map _).map _
      rw [List.map_map, List.map_map]
      rfl
    rw [e] at hlc
    refine tn_ret (mk_one ?_)
    refine hlc H1 (Evl.Ex.refl _) _ fun vl H2 e2 rl => ?_
    intro x dx hx hdx hne
    have m2 := m1.ex e2
    have exA : Ex H2 (upd (upd H2 dx (.own x)) x (.ins A.cScan dx [])) := (Evl.Ex.new hdx).trans (Evl.Ex.new (by rw [upd_ne (Ne.symm hne)]; exact hx))
    have m3 : Mem (plus S x) (upd (upd H2 dx (.own x)) x (.ins A.cScan dx [])) := fun b s => by
      rcases s with s | s
      · obtain ⟨o, h⟩ := m2 b s
        exact ⟨o, exA _ _ h⟩
      · exact ⟨_, by rw [s]; exact upd_same⟩
    have rl' : Rp K (plus S x) (upd (upd H2 dx (.own x)) x (.ins A.cScan dx [])) vl (linesD (linesOf t)) := (rl.plus hx).mono ⟨fun a o n h => exA _ _ h, m3⟩
    refine ⟨plus S x, x, dx, vl, linesOf t, rfl, m3, .inr rfl, upd_same, rl', fun H3 e3 hs3 => ⟨rfl, ?_⟩⟩
    have hHx : H x = none := by
      cases z : H x with
      | none => rfl
      | some o => rw [e2 _ _ (e1 _ _ z)] at hx; cases hx
    refine k x H3 (fun b o hb => ?_) hHx ?_ hs3
    · have nb : b ≠ x := fun z => by rw [z, hHx] at hb; cases hb
      exact e3 b o nb (exA _ _ (e2 _ _ (e1 _ _ hb)))
    · obtain ⟨_, dx', vl', g1, _⟩ := id hs3
      exact (Ex1.exS m3 (.inr rfl) e3 ⟨_, g1⟩).mem
  · have hf : d.isStr = false := by cases d <;> first | rfl | exact absurd ⟨_, rfl⟩ hd
    rw [hf, if_pos (by decide)]
    have k' : Stops A H 0 0 E := by cases d <;> first | exact k | exact absurd ⟨_, rfl⟩ hd
    exact ts_raise (K := K) (S := S) (is := [0, 0]) (ea_cons m1 ev_int (ea_cons m1 ev_int ea_nil)) rfl (fun i hi => by
      have : i = 0 := by simpa using hi
      rw [this]; decide) fun p H2 e2 hp h2 => (k'.mono e1) p H2 e2 hp h2
/-! ### the calls of methods, going on -/
theorem cx_takeof {i : Nat} {ta : TA} {ws : List Str} {Q : VK} (m : Mem S H) (hσ : σ[i]? = some (some (.ref q))) (hs : ScanAt K A S H q ls l a) (P : Plc ls l a)
    (ha : EvA K S ta σ H [.lst (ws.map D.str)] ∨ EvA K S ta σ H [.tup (ws.map D.str)])
    (k : match aheadO ls l a with
      | some w => if w ∈ ws then (∀ H', Ex1 q H H' → Mem S H' → ScanAt K A S H' q ls l (a + 1) → Q (.str w) H') else Stops A H l a E
      | none => Stops A H l a E) : tMeth A.cScan "take_of" (spTakeOf K A) [] E (tVar i) ta σ H Q := by
  obtain ⟨s, dx, vl, h1, h2⟩ := id hs
  have fin : ∀ vw H1, Ex H H1 → (Rp K S H1 vw (.lst (ws.map D.str)) ∨ Rp K S H1 vw (.tup (ws.map D.str))) → spTakeOf K A [.ref q, vw] H1 Q E := fun vw H1 e1 r => by
    refine ⟨S, q, ls, l, a, vw, ws, rfl, m.ex e1, hs.ex m e1, P, r, ?_⟩
    cases hah : aheadO ls l a with
    | none => rw [hah] at k; exact Stops.mono k e1
    | some w =>
      rw [hah] at k
      replace k : (if w ∈ ws then (∀ H', Ex1 q H H' → Mem S H' → ScanAt K A S H' q ls l (a + 1) → Q (.str w) H') else Stops A H l a E) := k
      show (if w ∈ ws then (∀ H', Ex1 q H1 H' → ScanAt K A S H' q ls l (a + 1) → Q (.str w) H') else Stops A H1 l a E)
      by_cases hm : w ∈ ws
      · rw [if_pos hm] at k ⊢
        intro H2 e2 h2
        obtain ⟨_, dx', vl', g1, _⟩ := id h2
        exact k H2 ((Ex.ex1 e1).trans e2) (Ex1.exS (m.ex e1) s e2 ⟨_, g1⟩).mem h2
      · rw [if_neg hm] at k ⊢
        exact k.mono e1
  refine ⟨.ref q, hσ, q, dx, _, rfl, h1, rfl, ?_⟩
  rcases ha with ha | ha
  · refine ha H (Evl.Ex.refl _) _ fun vs H1 e1 r1 => ?_
    obtain ⟨vw, rfl, r⟩ := r1.one
    exact fin vw H1 e1 (.inl r)
  · refine ha H (Evl.Ex.refl _) _ fun vs H1 e1 r1 => ?_
    obtain ⟨vw, rfl, r⟩ := r1.one
    exact fin vw H1 e1 (.inr r)
theorem cx_takenum {i : Nat} {ta : TA} {lo hi : Int} {Q : VK} (m : Mem S H) (hσ : σ[i]? = some (some (.ref q))) (hs : ScanAt K A S H q ls l a) (P : Plc ls l a) (ha : EvA K S ta σ H [.int lo, .int hi])
    (k : match aheadO ls l a with
      | some w => if figB w lo hi = true then (∀ H', Ex1 q H H' → Mem S H' → ScanAt K A S H' q ls l (a + 1) → Q (.int (num w)) H') else Stops A H l a E
      | none => Stops A H l a E) : tMeth A.cScan "take_number" (spTakeNum K A) [] E (tVar i) ta σ H Q := by
  obtain ⟨s, dx, vl, h1, h2⟩ := id hs
  refine ⟨.ref q, hσ, q, dx, _, rfl, h1, rfl, ha H (Evl.Ex.refl _) _ fun vs H1 e1 r1 => ?_⟩
  obtain ⟨x, y, rfl, rx, ry⟩ := r1.two
  cases rx; cases ry
  refine ⟨S, q, ls, l, a, lo, hi, rfl, m.ex e1, hs.ex m e1, P, ?_⟩
  cases hah : aheadO ls l a with
  | none => rw [hah] at k; exact Stops.mono k e1
  | some w =>
    rw [hah] at k
    replace k : (if figB w lo hi = true then (∀ H', Ex1 q H H' → Mem S H' → ScanAt K A S H' q ls l (a + 1) → Q (.int (num w)) H') else Stops A H l a E) := k
    show (if figB w lo hi = true then (∀ H', Ex1 q H1 H' → ScanAt K A S H' q ls l (a + 1) → Q (.int (num w)) H') else Stops A H1 l a E)
    by_cases hm : figB w lo hi = true
    · rw [if_pos hm] at k ⊢
      intro H2 e2 h2
      obtain ⟨_, dx', vl', g1, _⟩ := id h2
      exact k H2 ((Ex.ex1 e1).trans e2) (Ex1.exS (m.ex e1) s e2 ⟨_, g1⟩).mem h2
    · rw [if_neg hm] at k ⊢
      exact k.mono e1
/-! ### a list that is being made -/
theorem ev_ixM {i j : Nat} {p : Addr} {vs : List V} {ds : List D} {d : D} (m : Mem S H) (hσ : σ[i]? = some (some (.ref p))) (hp : H p = some (.lst vs)) (r : RpA K S H vs ds) (hj : ds[j]? = some d) : EvD K S (tOp (rIx K) (tVar i) (tC (.int j))) σ H d := fun H1 e Q k => by
  obtain ⟨v, hv, rv⟩ := r.get hj
  exact ⟨.ref p, hσ, .inl ⟨p, vs, j, v, rfl, rfl, .inl (.inl (e _ _ hp)), atI_nat hv, k v H1 (Evl.Ex.refl _) (rv.mono (.of m e))⟩⟩
theorem ev_lenM {i : Nat} {p : Addr} {vs : List V} {ds : List D} (m : Mem S H) (hσ : σ[i]? = some (some (.ref p))) (hp : H p = some (.lst vs)) (r : RpA K S H vs ds) : EvD K S (tCB (rLenV K) (tCons (tVar i) tNil)) σ H (.int ds.length) := fun H1 e Q k =>
  ⟨.ref p, hσ, .ref p, ds.length, rfl, .inl ⟨vs, .inl (.inl (e _ _ hp)), r.length.symm⟩, k _ H1 (Evl.Ex.refl _) (.int _)⟩
theorem ts_append {i : Nat} {p : Addr} {vs : List V} {te : TE} {D0 : Ends} (hσ : σ[i]? = some (some (.ref p))) (hp : H p = some (.lst vs))
    (k : te σ H fun x H1 => rAppend (.ref p) [x] H1 fun _ H2 => D0.nx σ H2) : tDrop (tBM K "list" rAppend (tVar i) (tCons te tNil)) D0 σ H := ⟨.ref p, hσ, .inl ⟨rfl, vs, .inl (.inl hp)⟩, k⟩
end
end Nv
set_option Elab.async false
set_option linter.all false
set_option maxRecDepth 100000
set_option maxHeartbeats 4000000
/-! Promises: taken_step. -/
namespace Nv
open PySem PySem.Spec PyProof.Rows L2 StX NvZ
def takePart (w0 : Str) (found : List D) (s : Str) (o : Option Str) : Option D :=
  if s = "v" ∧ o = some "-" then some .non
  else if w0 = "copy" ∧ found.length = 2 ∧ o = some (partW (found.getD 1 .non)) then none
  else match o with
    | none => none
    | some w => if figB w 0 (mostI s) = true then some (.int (num w)) else none
def takeParts (ws : List Str) (w0 : Str) : List Str → List D → Nat ⊕ List D
  | [], found => .inr found
  | s :: ss, found => match takePart w0 found s ws[found.length]? with
    | none => .inl found.length
    | some d => takeParts ws w0 ss (found ++ [d])
def takenW (ws : List Str) : Nat ⊕ List D := match ws[0]? with
  | none => .inl 0
  | some w => match formOf w with
    | none => .inl 0
    | some f => takeParts ws w (sorts f) [.str w]
theorem mem_forms {w : Str} : w ∈ ksFORMS ↔ (formOf w).isSome = true := by
  constructor
  · intro h
    have : w = "new" ∨ w = "read" ∨ w = "write" ∨ w = "copy" ∨ w = "drop" ∨ w = "tick" := by simpa [ksFORMS] using h
    rcases this with rfl | rfl | rfl | rfl | rfl | rfl <;> decide +kernel
  · intro h
    obtain ⟨f, hf⟩ := Option.isSome_iff_exists.mp h
    rcases form_cases hf with ⟨rfl, _⟩ | ⟨rfl, _⟩ | ⟨rfl, _⟩ | ⟨rfl, _⟩ | ⟨rfl, _⟩ | ⟨rfl, _⟩ <;> decide +kernel
theorem fig_range {w : Str} {lo hi : Int} (h : figB w lo hi = true) : lo ≤ num w ∧ num w ≤ hi := by
  unfold figB at h
  split at h
  · cases h
  · simp only [Bool.and_eq_true, decide_eq_true_eq] at h
    exact h.2
theorem mostI_le (s : Str) : mostI s ≤ 3 := by
  unfold mostI
  cases e : mostOf s with
  | none => decide
  | some j => rcases most_cases e with rfl | rfl | rfl <;> decide
theorem eqD_w (o : Option Str) (x : Str) : eqD (wD o) (.str x) = decide (o = some x) := by
  cases o with
  | none => rfl
  | some w =>
    show eqD (.str w) (.str x) = _
    rw [eqD_str]
    by_cases h : w = x
    · rw [decide_eq_true h, decide_eq_true (by rw [h])]
    · rw [decide_eq_false h, decide_eq_false (fun z => h (by injection z))]
def Stops1 (A : Ads) (q : Addr) (H : Hp) (l a : Nat) (E : XK) : Prop := ∀ p H', Ex1 q H H' → H p = none → H' p = some (.xd [("line", .int l), ("word", .int a)]) → E (.ref A.cBadText) (some p) H'
section
variable {K : PySem.W.Frag} {A : Ads} {S : Addr → Prop} {σ : L2.St} {H H' : Hp} {E : XK} {q : Addr} {ls : List (List Str)} {l a : Nat}
theorem Stops1.at (h : Stops1 A q H l a E) (e : Ex1 q H H') (hq : ∃ o, H' q = some o) : Stops A H' l a E := fun p H2 e2 hp h2 => h p H2 (e.trans (Ex.ex1 e2)) (by
  cases z : H p with
  | none => rfl
  | some o =>
    by_cases hpq : p = q
    · obtain ⟨u, hu⟩ := hq
      rw [hpq, hu] at hp; cases hp
    · rw [e _ _ hpq z] at hp; cases hp) h2
theorem ScanAt.there (h : ScanAt K A S H q ls l a) : ∃ o, H q = some o := by
  obtain ⟨_, dx, vl, g, _⟩ := h
  exact ⟨_, g⟩
theorem ScanAt.plus {p : Addr} (hp : H p = none) (h : ScanAt K A S H q ls l a) : ScanAt K A (plus S p) H q ls l a := by
  obtain ⟨s, dx, vl, g, r⟩ := h
  exact ⟨.inl s, dx, vl, g, r.plus hp⟩
theorem ahead_line (hl : l < ls.length) : aheadO ls l a = (ls.getD l [])[a]? := if_neg (Nat.ne_of_lt hl)
theorem ev_a1 {te : TE} {d : D} (h : EvD K S te σ H d) : EvA K S (tCons te tNil) σ H [d] := fun H1 e Q k => h H1 e _ fun v H2 e2 r2 => k _ H2 e2 (.cons r2 .nil)
theorem td_seq {te : TE} {r : TS} {D0 : Ends} (h : te σ H fun _ H1 => r D0 σ H1) : tSeq (tDrop te) r D0 σ H := h
theorem lst_one {te : TE} {Q : VK} (h : te σ H fun v H1 => 1 ≤ sizeLine ∧ ∀ p, H1 p = none → Q (.ref p) (upd H1 p (.lst [v]))) : tLst (tCons te tNil) σ H Q := h
def spTaken (K : PySem.W.Frag) (A : Ads) : Sp := fun vs H Q E => ∃ S q ls l, vs = [.ref q] ∧ Mem S H ∧ ScanAt K A S H q ls l 0 ∧ Plc ls l 0 ∧ l < ls.length ∧
  match takenW (ls.getD l []) with
  | .inl a => Stops1 A q H l a E
  | .inr ds => ds.length ≤ (ls.getD l []).length → ∀ v H', Ex1 q H H' → Mem S H' → ScanAt K A S H' q ls l ds.length → Rp K S H' v (.tup ds) → Q v H'
theorem takeParts_len {ws : List Str} {w0 : Str} : ∀ {ss : List Str} {found ds : List D}, found.length ≤ ws.length → takeParts ws w0 ss found = .inr ds → ds.length ≤ ws.length
  | [], found, ds, h, e => by
    have : found = ds := by injection e
    rw [← this]; exact h
  | s :: ss, found, ds, h, e => by
    unfold takeParts at e
    cases hp : takePart w0 found s ws[found.length]? with
    | none => rw [hp] at e; cases e
    | some d =>
      rw [hp] at e
      refine takeParts_len (found := found ++ [d]) ?_ e
      rw [List.length_append]
      have : found.length < ws.length := by
        by_cases z : found.length < ws.length
        · exact z
        · have hn : ws[found.length]? = none := List.getElem?_eq_none (by omega)
          rw [hn] at hp
          unfold takePart at hp
          rw [if_neg (by rintro ⟨_, z⟩; cases z), if_neg (by rintro ⟨_, _, z⟩; cases z)] at hp
          cases hp
      simp; omega
theorem taken_len {ws : List Str} {ds : List D} (h : takenW ws = .inr ds) : ds.length ≤ ws.length := by
  unfold takenW at h
  cases h0 : ws[0]? with
  | none => rw [h0] at h; cases h
  | some w =>
    rw [h0] at h
    have h' : (match formOf w with | none => (.inl 0 : Nat ⊕ List D) | some f => takeParts ws w (sorts f) [.str w]) = .inr ds := h
    cases hf : formOf w with
    | none => rw [hf] at h'; cases h'
    | some f =>
      rw [hf] at h'
      exact takeParts_len (by have := (List.getElem?_eq_some_iff.mp h0).1; show 1 ≤ ws.length; omega) h'
/-- what a turn may leave -/
structure Turned (K : PySem.W.Frag) (A : Ads) (S : Addr → Prop) (H0 : Hp) (q p : Addr) (ls : List (List Str)) (l : Nat) (w : Str) (f : Str) (i : Nat) (H' : Hp) (vs : List V) (found : List D) : Prop where
  lst : H' p = some (.lst vs)
  arr : RpA K (plus S p) H' vs found
  len : found.length = i + 1
  scan : ScanAt K A (plus S p) H' q ls l (i + 1)
  mem : Mem (plus S p) H'
  ex : Ex1 q H0 H'
  way : takeParts (ls.getD l []) w (sorts f) [.str w] = takeParts (ls.getD l []) w ((sorts f).drop i) found
  head : found[0]? = some (.str w)
  parts : ∀ d ∈ found.tail, PartIs d
  nums : w = "copy" → ∀ d ∈ found.tail, ∃ k, d = .int k
  fit : found.length ≤ (ls.getD l []).length
theorem pr_taken (X : Sx A K) (Y : Dx A K) (vs : List V) (H : Hp) (Q : VK) (E : XK) (h : spTaken K A vs H Q E) : t_taken_step K A E (spTakeOf K A) (spAhead K A) (spStop K A) (spTakeNum K A) { nx := fun _ H' => Q .non H', rt := Q } (start ["scan", "found", "sort"] vs) H := by
  obtain ⟨S, q, ls, l, rfl, m, hs, P, hl, k⟩ := h
  show t_taken_step K A E (spTakeOf K A) (spAhead K A) (spStop K A) (spTakeNum K A) { nx := fun _ H' => Q .non H', rt := Q } [some (.ref q), none, none] H
  have P1 := P.many
  have P2 := (P.each _ (getD_mem hl)).1
  have ss := hs.1
  refine ts_setk (lst_one (cx_takeof (i := 0) m rfl hs P (.inl (ea_cons m (ra_klist (te := tC .non) m) ea_nil)) ?_))
  rw [ahead_line hl]
  unfold takenW at k
  cases h0 : (ls.getD l [])[0]? with
  | none =>
    rw [h0] at k
    exact Stops1.at k Ex1.refl hs.there
  | some w =>
    rw [h0] at k
    show (if w ∈ ksFORMS then _ else Stops A H l 0 E)
    replace k : (match (match formOf w with | none => (.inl 0 : Nat ⊕ List D) | some f => takeParts (ls.getD l []) w (sorts f) [.str w]) with
      | .inl a => Stops1 A q H l a E
      | .inr ds => ds.length ≤ (ls.getD l []).length → ∀ v H', Ex1 q H H' → Mem S H' → ScanAt K A S H' q ls l ds.length → Rp K S H' v (.tup ds) → Q v H') := k
    cases hf : formOf w with
    | none =>
      rw [hf] at k
      rw [if_neg (fun z => by rw [mem_forms, hf] at z; cases z)]
      exact Stops1.at k Ex1.refl hs.there
    | some f =>
      rw [hf] at k
      replace k : (match takeParts (ls.getD l []) w (sorts f) [.str w] with
        | .inl a => Stops1 A q H l a E
        | .inr ds => ds.length ≤ (ls.getD l []).length → ∀ v H', Ex1 q H H' → Mem S H' → ScanAt K A S H' q ls l ds.length → Rp K S H' v (.tup ds) → Q v H') := k
      rw [if_pos (mem_forms.mpr (by rw [hf]; rfl))]
      intro H1 e1 m1 hs1
      obtain ⟨fs1, fs2, fs3, fs4⟩ := form_sorts hf
      refine ⟨by decide, fun p hp => ?_⟩
      have hHp : H p = none := by
        cases z : H p with
        | none => rfl
        | some o =>
          by_cases hpq : p = q
          · obtain ⟨u, hu⟩ := hs1.there
            rw [hpq, hu] at hp; cases hp
          · rw [e1 _ _ hpq z] at hp; cases hp
      have npq : p ≠ q := fun z => by
        obtain ⟨u, hu⟩ := hs1.there
        rw [z, hu] at hp; cases hp
      have eN : Ex H1 (upd H1 p (.lst [.str w])) := Evl.Ex.new hp
      have mN : Mem (plus S p) (upd H1 p (.lst [.str w])) := fun b s => by
        rcases s with s | s
        · obtain ⟨o, h⟩ := m1 b s
          exact ⟨o, eN _ _ h⟩
        · exact ⟨_, by rw [s]; exact upd_same⟩
      have hsN : ScanAt K A (plus S p) (upd H1 p (.lst [.str w])) q ls l 1 := by
        obtain ⟨s, dx, vl, g, r⟩ := hs1.plus hp
        exact ⟨s, dx, vl, eN _ _ g, r.mono ⟨fun a o n h => eN _ _ h, mN⟩⟩
      have T0 : Turned K A S H q p ls l w f 0 (upd H1 p (.lst [.str w])) [.str w] [.str w] := ⟨upd_same, .cons (.str w) .nil, rfl, hsN, mN, e1.trans (Ex.ex1 eN), rfl, rfl, fun d hd => (nomatch hd), fun _ d hd => (nomatch hd), by have := (List.getElem?_eq_some_iff.mp h0).1; show 1 ≤ _; omega⟩
      have hit : EvI K (plus S p) (iSeq K (tOp (rKItem K A.dF) (tC (.ref A.dF)) (tOp (rIx K) (tVar 1) (tC (.int 0))))) [some (.ref q), some (.ref p), none] (upd H1 p (.lst [.str w])) (items (.str f)) :=
        ei_seq mN (ev_form Y (ev_ixM (i := 1) mN rfl upd_same (.cons (.str w) .nil) rfl) hf) rfl
      rw [items_str] at hit
      refine ts_forseq (E := { nx := fun _ H' => Q .non H', rt := Q }) hit fun H2 e2 => ?_
      have m2 := mN.ex e2
      refine ⟨fun i σ' H' => i ≤ (sorts f).length ∧ ∃ vs found sv, σ' = [some (.ref q), some (.ref p), sv] ∧ Turned K A S H q p ls l w f i H' vs found ∧ Up K (plus S p) H2 (plus S p) H', ?_, ?_, ?_, ?_⟩
      · refine ⟨Nat.zero_le _, _, _, none, rfl, ⟨e2 _ _ T0.lst, T0.arr.mono (.of mN e2), rfl, T0.scan.ex mN e2, m2, T0.ex.trans (Ex.ex1 e2), rfl, rfl, T0.parts, T0.nums, T0.fit⟩, Up.refl⟩
      · rintro i σ' H' ⟨_, vs, found, sv, _, T, u⟩
        exact ⟨plus S p, T.mem, u⟩
      · rintro i d σ' H' hd ⟨hil, vs, found, sv, rfl, T, u⟩ x H'' ex hx
        rw [List.getElem?_map, Option.map_eq_some_iff] at hd
        obtain ⟨s, hsrt, rfl⟩ := hd
        have rx := hx _ T.mem u
        have mH := T.mem.ex ex
        have hscan := T.scan.ex T.mem ex
        have hlst := ex _ _ T.lst
        have harr := T.arr.mono (.of T.mem ex)
        have eH : Ex1 q H H'' := T.ex.trans (Ex.ex1 ex)
        have hslen : i < (sorts f).length := (List.getElem?_eq_some_iff.mp hsrt).1
        have hf3 : (sorts f).length ≤ 3 := by omega
        have hsm : s ∈ sorts f := List.mem_of_getElem? hsrt
        obtain ⟨im, him, hsok⟩ := fs1 s hsm
        have hfit := T.fit
        have hPl : Plc ls l (i + 1) := ⟨P.many, P.each, P.lok, fun _ => by rw [← T.len]; exact hfit, by omega⟩
        have hah : aheadO ls l (i + 1) = (ls.getD l [])[found.length]? := by rw [ahead_line hl, T.len]
        have hway : takeParts (ls.getD l []) w (sorts f) [.str w] = (match takePart w found s (aheadO ls l (i + 1)) with
            | none => .inl (i + 1)
            | some d => takeParts (ls.getD l []) w ((sorts f).drop (i + 1)) (found ++ [d])) := by
          rw [T.way, List.drop_eq_getElem_cons hslen]
          have es : (sorts f)[i] = s := by
            rw [List.getElem?_eq_getElem hslen] at hsrt
            injection hsrt
          rw [es, hah, ← T.len]
          rfl
        have stopk : takePart w found s (aheadO ls l (i + 1)) = none → Stops1 A q H l (i + 1) E := fun hn => by
          have k2 := k
          rw [hway, hn] at k2
          exact k2
        have wok : ∀ x, aheadO ls l (i + 1) = some x → wdB x = true := fun x hx => ahead_wd hPl hx
        have plw : plainD (wD (aheadO ls l (i + 1))) = true := by
          cases z : aheadO ls l (i + 1) with
          | none => rfl
          | some x =>
            have := wok x z
            have h3 : (PyData.strOk x && decide (x.length ≤ 100) && (!digits x || (decide (x.length = 0) || (PySem.intText? x).isSome))) = true := this
            simp only [Bool.and_eq_true] at h3
            exact h3.1.1
        have dpw : dep (wD (aheadO ls l (i + 1))) ≤ 64 := by cases aheadO ls l (i + 1) <;> exact Nat.zero_le _
        -- the turn's end
        have done : ∀ (d : D) (v : V) (H4 : Hp), takePart w found s (aheadO ls l (i + 1)) = some d → PartIs d → (w = "copy" → ∃ k, d = .int k) → (∀ H5, Rp K (plus S p) H5 v d) → Ex1 q H'' H4 → Mem (plus S p) H4 → ScanAt K A (plus S p) H4 q ls l (i + 1 + 1) →
            rAppend (.ref p) [v] H4 fun _ H5 => i + 1 ≤ (sorts f).length ∧ ∃ vs found sv, [some (.ref q), some (.ref p), some x] = [some (.ref q), some (.ref p), sv] ∧ Turned K A S H q p ls l w f (i + 1) H5 vs found ∧ Up K (plus S p) H2 (plus S p) H5 := fun d v H4 htp hpi hci rv e4 m4 hs4 => by
          have hl4 : H4 p = some (.lst vs) := e4 _ _ npq hlst
          have x4 : ExS (plus S p) H'' H4 := Ex1.exS mH (.inl ss) e4 hs4.there
          have x5 : ExS (plus S p) H4 (upd H4 p (.lst (vs ++ [v]))) := ExS.put m4 (.inr rfl)
          have hvl : vs.length = found.length := T.arr.length
          have hfl := T.len
          refine ⟨p, vs, v, rfl, rfl, hl4, by rw [sizeLine_eq]; omega, hslen, vs ++ [v], found ++ [d], _, rfl, ⟨upd_same, ((harr.mono x4).mono x5).app (.cons (rv _) .nil), by rw [List.length_append, T.len]; rfl, ?_, x5.mem, ?_, ?_, ?_, ?_, ?_, ?_⟩, ?_⟩
          · obtain ⟨s', dx, vl, g, r⟩ := hs4
            exact ⟨s', dx, vl, by rw [upd_ne (Ne.symm npq)]; exact g, r.mono x5⟩
          · intro b o nb hb
            rw [upd_ne (fun z => by rw [z, hHp] at hb; cases hb)]
            exact (eH.trans e4) b o nb hb
          · rw [hway, htp]
          · rw [List.getElem?_append_left (by omega)]; exact T.head
          · intro y hy
            cases found with
            | nil => cases T.len
            | cons f0 fr =>
              rw [List.cons_append, List.tail_cons, List.mem_append] at hy
              rcases hy with hy | hy
              · exact T.parts y hy
              · have : y = d := by simpa using hy
                rw [this]; exact hpi
          · intro hw y hy
            cases found with
            | nil => cases T.len
            | cons f0 fr =>
              rw [List.cons_append, List.tail_cons, List.mem_append] at hy
              rcases hy with hy | hy
              · exact T.nums hw y hy
              · have : y = d := by simpa using hy
                rw [this]; exact hci hw
          · rw [List.length_append]
            show found.length + 1 ≤ _
            have : found.length < (ls.getD l []).length := by
              by_cases z : found.length < (ls.getD l []).length
              · exact z
              · have hn : aheadO ls l (i + 1) = none := by rw [hah]; exact List.getElem?_eq_none (by omega)
                rw [hn] at htp
                unfold takePart at htp
                rw [if_neg (by rintro ⟨_, z⟩; cases z), if_neg (by rintro ⟨_, _, z⟩; cases z)] at htp
                cases htp
            omega
          · exact fun v' d' r => (((u v' d' r).mono (.of T.mem ex)).mono x4).mono x5
        have t1 : EvB (tTest (tOp (rEqD K) (tVar 2) (tC (.str "v")))) [some (.ref q), some (.ref p), some x] H'' (decide (s = "v")) := by
          have := eb_T (ev_op mH (ev_var (σ := [some (.ref q), some (.ref p), some x]) (i := 2) mH rfl rx) (ev_str (i := "v")) (r_eqD (d1 := .str s) hsok (by decide +kernel) (Nat.zero_le _) (Nat.zero_le _)))
          rwa [eqD_str] at this
        have t2 : EvB (tTest (tOp (rEqD K) (tMeth A.cScan "ahead" (spAhead K A) [] E0 (tVar 0) tNil) (tC (.str "-")))) [some (.ref q), some (.ref p), some x] H'' (decide (aheadO ls l (i + 1) = some "-")) := by
          have := eb_T (ev_op mH (ev_ahead (σ := [some (.ref q), some (.ref p), some x]) (i := 0) mH rfl hscan hPl) (ev_str (i := "-")) (r_eqD plw (by decide +kernel) dpw (Nat.zero_le _)))
          rwa [eqD_w] at this
        refine ts_if (σ := [some (.ref q), some (.ref p), some x]) (eb_and t1 fun _ => t2) fun H3 e3 => ?_
        have m3 := mH.ex e3
        have hscan3 := hscan.ex mH e3
        by_cases hb1 : s = "v" ∧ aheadO ls l (i + 1) = some "-"
        · rw [if_pos (by rw [decide_eq_true hb1.1, decide_eq_true hb1.2]; rfl)]
          have htp : takePart w found s (aheadO ls l (i + 1)) = some .non := if_pos hb1
          refine td_seq (cx_takeof (i := 0) (ws := ["-"]) m3 rfl hscan3 hPl (.inr (ev_a1 (ev_tup m3 (ea_cons m3 ev_str ea_nil) (by show 1 ≤ 100000; decide)))) ?_)
          rw [hb1.2]
          show (if ("-" : Str) ∈ (["-"] : List Str) then _ else _)
          rw [if_pos (by simp)]
          intro H4 e4 m4 hs4
          refine ts_append (vs := vs) rfl (e4 _ _ npq (e3 _ _ hlst)) ?_
          exact done .non .non H4 htp (.inl rfl) (fun hw => by
            subst hw
            rw [copyForm] at hf; cases hf
            rw [rrSorts] at hsm
            have : s = "r" := by simpa using hsm
            rw [this] at hb1
            exact absurd hb1.1 (by decide +kernel)) (fun _ => .non) ((Ex.ex1 e3).trans e4) m4 hs4
        · rw [if_neg (by
            intro z
            rw [Bool.and_eq_true, decide_eq_true_eq, decide_eq_true_eq] at z
            exact hb1 z)]
          have hlst3 := e3 _ _ hlst
          have harr3 := harr.mono (.of mH e3)
          have u1 : EvB (tTest (tOp (rEqD K) (tOp (rIx K) (tVar 1) (tC (.int 0))) (tC (.str "copy")))) [some (.ref q), some (.ref p), some x] H3 (decide (w = "copy")) := by
            have := eb_T (ev_op m3 (ev_ixM (σ := [some (.ref q), some (.ref p), some x]) (i := 1) m3 rfl hlst3 harr3 T.head) (ev_str (i := "copy")) (r_eqD (d1 := .str w) fs4 (by decide +kernel) (Nat.zero_le _) (Nat.zero_le _)))
            rwa [eqD_str] at this
          have u2 : EvB (tTest (tOp (rEqD K) (tCB (rLenV K) (tCons (tVar 1) tNil)) (tC (.int 2)))) [some (.ref q), some (.ref p), some x] H3 (decide (found.length = 2)) := by
            have := eb_T (ev_op m3 (ev_lenM (σ := [some (.ref q), some (.ref p), some x]) (i := 1) m3 rfl hlst3 harr3) (ev_int (i := 2)) (r_eqD rfl rfl (Nat.zero_le _) (Nat.zero_le _)))
            rw [eqD_int] at this
            refine this.is ?_
            rw [decide_eq_decide]
            omega
          have u3 : w = "copy" → found.length = 2 → EvB (tTest (tOp (rEqD K) (tMeth A.cScan "ahead" (spAhead K A) [] E0 (tVar 0) tNil) (tCB rStrI (tCons (tOp (rIx K) (tVar 1) (tC (.int 1))) tNil)))) [some (.ref q), some (.ref p), some x] H3 (decide (aheadO ls l (i + 1) = some (partW (found.getD 1 .non)))) := fun hw hl2 => by
            obtain ⟨f0, f1, rfl⟩ : ∃ a b, found = [a, b] := by
              match found, hl2 with
              | [a, b], _ => exact ⟨a, b, rfl⟩
            obtain ⟨kk, hkk⟩ := T.nums hw f1 (by simp)
            subst hkk
            have hpi := T.parts (.int kk) (by simp)
            have hsm : kk.natAbs.log2 < 1920 := by
              rcases hpi with z | ⟨j, hj, j0, j1⟩
              · cases z
              · injection hj with hj
                subst hj
                rcases (by omega : kk = 0 ∨ kk = 1 ∨ kk = 2 ∨ kk = 3) with rfl | rfl | rfl | rfl <;> decide +kernel
            have hok : PyData.strOk (istr kk) = true := by
              rcases hpi with z | ⟨j, hj, j0, j1⟩
              · cases z
              · injection hj with hj
                subst hj
                rcases (by omega : kk = 0 ∨ kk = 1 ∨ kk = 2 ∨ kk = 3) with rfl | rfl | rfl | rfl <;> decide +kernel
            have := eb_T (ev_op m3 (ev_ahead (σ := [some (.ref q), some (.ref p), some x]) (i := 0) m3 rfl hscan3 hPl) (ev_cb (ea_cons m3 (ev_ixM (j := 1) (i := 1) m3 rfl hlst3 harr3 rfl) ea_nil) (ra_str hsm)) (r_eqD (d2 := .str (istr kk)) plw hok dpw (Nat.zero_le _)))
            rwa [eqD_w] at this
          refine ts_ifseq (b := decide (w = "copy") && (decide (found.length = 2) && decide (aheadO ls l (i + 1) = some (partW (found.getD 1 .non))))) (σ := [some (.ref q), some (.ref p), some x]) (eb_and u1 fun g1 => eb_and u2 fun g2 => u3 (of_decide_eq_true g1) (of_decide_eq_true g2)) fun H4 e4 => ?_
          have m4 := m3.ex e4
          have hscan4 := hscan3.ex m3 e4
          have eH4 : Ex1 q H H4 := (eH.trans (Ex.ex1 e3)).trans (Ex.ex1 e4)
          by_cases hb2 : w = "copy" ∧ found.length = 2 ∧ aheadO ls l (i + 1) = some (partW (found.getD 1 .non))
          · rw [if_pos (by rw [decide_eq_true hb2.1, decide_eq_true hb2.2.1, decide_eq_true hb2.2.2]; rfl)]
            exact td_stop (r := tNext) m4 rfl hscan4 hPl ((stopk (by unfold takePart; rw [if_neg hb1, if_pos hb2])).at eH4 hscan4.there)
          · rw [if_neg (by
              intro z
              simp only [Bool.and_eq_true, decide_eq_true_eq] at z
              exact hb2 z)]
            refine ts_append (vs := vs) rfl (e4 _ _ hlst3) ?_
            have hmo : mostI s = im := by unfold mostI; rw [him]; rfl
            refine cx_takenum (i := 0) (lo := 0) (hi := mostI s) m4 rfl hscan4 hPl (ea_cons m4 ev_int (ev_a1 (by rw [hmo]; exact ev_most Y (ev_var (i := 2) m4 rfl (rx.mono (.of mH (e3.trans e4)))) him))) ?_
            cases ho : aheadO ls l (i + 1) with
            | none => exact (stopk (by unfold takePart; rw [if_neg hb1, if_neg hb2, ho])).at eH4 hscan4.there
            | some w' =>
              show (if figB w' 0 (mostI s) = true then _ else _)
              by_cases hfg : figB w' 0 (mostI s) = true
              · rw [if_pos hfg]
                intro H5 e5 m5 hs5
                have hr := fig_range hfg
                have hm3 := mostI_le s
                exact done (.int (num w')) _ H5 (by unfold takePart; rw [if_neg hb1, if_neg hb2, ho]; exact if_pos hfg) (.inr ⟨_, rfl, hr.1, by omega⟩) (fun _ => ⟨_, rfl⟩) (fun _ => .int _) (((Ex.ex1 e3).trans (Ex.ex1 e4)).trans e5) m5 hs5
              · rw [if_neg hfg]
                exact (stopk (by unfold takePart; rw [if_neg hb1, if_neg hb2, ho]; exact if_neg hfg)).at eH4 hscan4.there
      · rintro σ' H' ⟨hil, vs, found, sv, rfl, T, u⟩
        have hlen : ((sorts f).map D.str).length = (sorts f).length := List.length_map ..
        rw [hlen] at T
        have hway := T.way
        rw [List.drop_length] at hway
        rw [hway] at k
        have mS : Mem S H' := fun b s => T.mem b (.inl s)
        refine ⟨.ref p, rfl, p, vs, rfl, .inl ⟨.inl (.inl T.lst), fun t ht => ?_⟩⟩
        have eT : Ex H' (upd H' t (.tup vs)) := Evl.Ex.new ht
        refine k T.fit _ _ (T.ex.trans (Ex.ex1 eT)) (mS.ex eT) ?_ (.newT mS (T.arr.less fun a s => .inl s) ht)
        rw [T.len]
        obtain ⟨s', dx, vl, g, r⟩ := T.scan.ex T.mem eT
        exact ⟨ss, dx, vl, g, r.less fun a s => .inl s⟩
end
end Nv
set_option Elab.async false
set_option linter.all false
set_option maxRecDepth 100000
set_option maxHeartbeats 4000000
/-! Promises: read_program. -/
namespace Nv
open PySem PySem.Spec PyProof.Rows L2 StX NvZ
def readFrom : List (List Str) → Nat → (Nat × Nat) ⊕ List (List D)
  | [], _ => .inr []
  | ws :: rest, l => match takenW ws with
    | .inl a => .inl (l, a)
    | .inr ds => if ds.length < ws.length then .inl (l, ds.length) else match readFrom rest (l + 1) with
      | .inl x => .inl x
      | .inr dss => .inr (ds :: dss)
def readD (A : Ads) (d : D) : Addr × List (Str × V) ⊕ D := match d with
  | .str t => if t = "-" then .inr (.tup []) else match readFrom (linesOf t) 0 with
    | .inl (l, a) => .inl (A.cBadText, [("line", .int l), ("word", .int a)])
    | .inr dss => .inr (.tup (dss.map D.tup))
  | _ => .inl (A.cBadText, [("line", .int (0 : Nat)), ("word", .int (0 : Nat))])
section
variable {K : PySem.W.Frag} {A : Ads} {S : Addr → Prop} {σ : L2.St} {H H' : Hp} {E : XK} {q : Addr} {ls : List (List Str)} {l a : Nat}
abbrev spRead (K : PySem.W.Frag) (A : Ads) : Sp := PureX K 1 (in1 textIn) (at1X (readD A))
theorem cx_taken {i : Nat} {Q : VK} (m : Mem S H) (hσ : σ[i]? = some (some (.ref q))) (hs : ScanAt K A S H q ls l 0) (P : Plc ls l 0) (hl : l < ls.length)
    (k : match takenW (ls.getD l []) with
      | .inl a => Stops1 A q H l a E
      | .inr ds => ds.length ≤ (ls.getD l []).length → ∀ v H', Ex1 q H H' → Mem S H' → ScanAt K A S H' q ls l ds.length → Rp K S H' v (.tup ds) → Q v H') : tCall (spTaken K A) [] E (tCons (tVar i) tNil) σ H Q :=
  ⟨.ref q, hσ, S, q, ls, l, rfl, m, hs, P, hl, k⟩
theorem cx_endline {i : Nat} {Q : VK} (m : Mem S H) (hσ : σ[i]? = some (some (.ref q))) (hs : ScanAt K A S H q ls l a) (P : Plc ls l a)
    (k : if (aheadO ls l a).isSome = true ∨ l = ls.length then Stops A H l a E else ∀ H', Ex1 q H H' → ScanAt K A S H' q ls (l + 1) 0 → Q .non H') : tMeth A.cScan "end_line" (spEndLine K A) [] E (tVar i) tNil σ H Q := by
  obtain ⟨s, dx, vl, h1, h2⟩ := id hs
  exact ⟨.ref q, hσ, q, dx, _, rfl, h1, rfl, S, q, ls, l, a, rfl, m, hs, P, k⟩
theorem ts_whileseq {c : TT} {tb r : TS} {D0 : Ends} {n0 : Nat} (Pv : Nat → L2.St → Hp → Prop) (h0 : Pv n0 σ H)
    (h : ∀ n σ' H', Pv n σ' H' → ∃ b, EvB c σ' H' b ∧ ∀ H'', Ex H' H'' → if b = true then tb { D0 with nx := fun σ2 H2 => ∃ m, m < n ∧ Pv m σ2 H2, ct := fun σ2 H2 => ∃ m, m < n ∧ Pv m σ2 H2, bk := r D0 } σ' H'' else r D0 σ' H'') : tSeq (tWhile c tb) r D0 σ H :=
  ⟨Pv, ⟨n0, h0⟩, fun n σ' H' p => by
    obtain ⟨b, hb, k⟩ := h n σ' H' p
    refine hb H' (Evl.Ex.refl _) _ fun H'' e => ?_
    have k' := k H'' e
    cases b with
    | true => exact ⟨_, fun σ2 H2 z => z, k'⟩
    | false => exact k'⟩
theorem tn_par {i j : Nat} {ta : TA} {r : TS} {D0 : Ends} (h : ta σ H fun vs H1 => ∃ v w, vs = [v, w] ∧ r D0 ((σ.set i (some v)).set j (some w)) H1) : tNext { D0 with nx := tSeq (tPar i j ta) r D0 } σ H := h
theorem td_seq' {t : TS} {r : TS} {D0 : Ends} (h : t { D0 with nx := r D0 } σ H) : tSeq t r D0 σ H := h
theorem ts_append' {i : Nat} {p : Addr} {vs : List V} {te : TE} {D0 : Ends} (hσ : σ[i]? = some (some (.ref p))) (hp : H p = some (.lst vs))
    (k : te σ H fun x H1 => rAppend (.ref p) [x] H1 fun _ H2 => D0.nx σ H2) : tDrop (tBM K "list" rAppend (tVar i) (tCons te tNil)) D0 σ H := ts_append hσ hp k
structure Reading (K : PySem.W.Frag) (A : Ads) (S : Addr → Prop) (H0 : Hp) (q p : Addr) (ls : List (List Str)) (l : Nat) (H' : Hp) (vs : List V) (dss : List (List D)) : Prop where
  lst : H' p = some (.lst vs)
  arr : RpA K (plus (plus S q) p) H' vs (dss.map D.tup)
  len : dss.length = l
  scan : ScanAt K A (plus (plus S q) p) H' q ls l 0
  mem : Mem (plus (plus S q) p) H'
  ex : Ex H0 H'
  le : l ≤ ls.length
  way : readFrom ls 0 = (match readFrom (ls.drop l) l with
    | .inl x => .inl x
    | .inr r => .inr (dss ++ r))
theorem pr_read (X : Sx A K) (vs : List V) (H : Hp) (Q : VK) (E : XK) (h : spRead K A vs H Q E) : t_read_program K A E (spScanOf K A) (spOver K A) (spTaken K A) (spEndLine K A) { nx := fun _ H' => Q .non H', rt := Q } (start ["text", "scan", "found"] vs) H := by
  obtain ⟨S, dd, hl, m, r0, ⟨d, rfl, hin⟩, k⟩ := h
  obtain ⟨v, rfl, r⟩ := r0.one
  replace k : (match readD A d with
    | .inr d => ∀ v H', Ex H H' → Rp K S H' v d → Q v H'
    | .inl x => ∀ p H', Ex H H' → H p = none → H' p = some (.xd x.2) → E (.ref x.1) (some p) H') := k
  show t_read_program K A E (spScanOf K A) (spOver K A) (spTaken K A) (spEndLine K A) { nx := fun _ H' => Q .non H', rt := Q } [some v, none, none] H
  have hb : d.base = true := by cases d <;> first | rfl | exact hin.elim
  have hs : EvB (tB (tCB (rIsi K) (tCons (tVar 0) (tCons (tC (.ty "str")) tNil)))) [some v, none, none] H d.isStr := eb_B (r_isi (ev_var m rfl r) (okT_base hb) (ki_str hb))
  by_cases hd : ∃ t, d = .str t
  · obtain ⟨t, rfl⟩ := hd
    have T : TxtOk t := hin
    have he : EvB (tTest (tOp (rEqD K) (tVar 0) (tC (.str "-")))) [some v, none, none] H (decide (t = "-")) := by
      have := eb_T (ev_op m (ev_var (σ := [some v, none, none]) (i := 0) m rfl r) (ev_str (i := "-")) (r_eqD (d1 := .str t) T.ok (by decide +kernel) (Nat.zero_le _) (Nat.zero_le _)))
      rwa [eqD_str] at this
    refine ts_ifseq ((eb_and hs fun _ => he).is (show (true && decide (t = "-")) = decide (t = "-") from Bool.true_and _)) fun H1 e1 => ?_
    have m1 := m.ex e1
    unfold readD at k
    by_cases ht : t = "-"
    · rw [decide_eq_true ht, if_pos rfl]
      replace k : (match (if t = "-" then (.inr (.tup []) : Addr × List (Str × V) ⊕ D) else match readFrom (linesOf t) 0 with
        | .inl (l, a) => .inl (A.cBadText, [("line", .int l), ("word", .int a)])
        | .inr dss => .inr (.tup (dss.map D.tup))) with
        | .inr d => ∀ v H', Ex H H' → Rp K S H' v d → Q v H'
        | .inl x => ∀ p H', Ex H H' → H p = none → H' p = some (.xd x.2) → E (.ref x.1) (some p) H') := k
      rw [if_pos ht] at k
      exact ts_ret (K := K) (S := S) (ev_tup m1 ea_nil (by show 0 ≤ _; omega)) fun u H2 e2 r2 => k u H2 (e1.trans e2) r2
    · rw [decide_eq_false ht, if_neg Bool.false_ne_true]
      replace k : (match (if t = "-" then (.inr (.tup []) : Addr × List (Str × V) ⊕ D) else match readFrom (linesOf t) 0 with
        | .inl (l, a) => .inl (A.cBadText, [("line", .int l), ("word", .int a)])
        | .inr dss => .inr (.tup (dss.map D.tup))) with
        | .inr d => ∀ v H', Ex H H' → Rp K S H' v d → Q v H'
        | .inl x => ∀ p H', Ex H H' → H p = none → H' p = some (.xd x.2) → E (.ref x.1) (some p) H') := k
      rw [if_neg ht] at k
      replace k : (match readFrom (linesOf t) 0 with
        | .inl (l, a) => ∀ p H', Ex H H' → H p = none → H' p = some (.xd [("line", .int l), ("word", .int a)]) → E (.ref A.cBadText) (some p) H'
        | .inr dss => ∀ v H', Ex H H' → Rp K S H' v (.tup (dss.map D.tup)) → Q v H') := by
        cases hh : readFrom (linesOf t) 0 with
        | inl x => obtain ⟨l, a⟩ := x; rw [hh] at k; exact k
        | inr dss => rw [hh] at k; exact k
      have many : (linesOf t).length ≤ 1000 := by show (List.map _ _).length ≤ _; rw [List.length_map]; exact T.many
      refine tn_par ?_
      refine ⟨v, rfl, S, v, .str t, rfl, m1, r.mono (.of m e1), T, fun q H2 e2 hq m2 hs2 => ?_⟩
      refine ⟨by decide, fun p hp => ⟨.ref q, .ref p, rfl, ?_⟩⟩
      have hH1p : H1 p = none := by
        cases z : H1 p with
        | none => rfl
        | some o => rw [e2 _ _ z] at hp; cases hp
      have eN : Ex H2 (upd H2 p (.lst [])) := Evl.Ex.new hp
      have mN : Mem (plus (plus S q) p) (upd H2 p (.lst [])) := fun b s => by
        rcases s with s | s
        · obtain ⟨o, h⟩ := m2 b s
          exact ⟨o, eN _ _ h⟩
        · exact ⟨_, by rw [s]; exact upd_same⟩
      have hsN : ScanAt K A (plus (plus S q) p) (upd H2 p (.lst [])) q (linesOf t) 0 0 := by
        obtain ⟨s, dx, vl, g, r⟩ := hs2.plus hp
        exact ⟨s, dx, vl, eN _ _ g, r.mono ⟨fun a o n h => eN _ _ h, mN⟩⟩
      have npq : p ≠ q := fun z => by
        obtain ⟨u, hu⟩ := hs2.there
        rw [z, hu] at hp; cases hp
      have hHq : H q = none := by
        cases z : H q with
        | none => rfl
        | some o => rw [e1 _ _ z] at hq; cases hq
      have hHp : H p = none := by
        cases z : H p with
        | none => rfl
        | some o => rw [e1 _ _ z] at hH1p; cases hH1p
      have R0 : Reading K A S H q p (linesOf t) 0 (upd H2 p (.lst [])) [] [] := ⟨upd_same, .nil, rfl, hsN, mN, (e1.trans e2).trans eN, Nat.zero_le _, by
        rw [List.drop_zero]
        cases readFrom (linesOf t) 0 <;> rfl⟩
      show tSeq _ _ { nx := fun _ H' => Q .non H', rt := Q } [some v, some (.ref q), some (.ref p)] _
      refine ts_whileseq (n0 := (linesOf t).length) (fun n σ' H' => σ' = [some v, some (.ref q), some (.ref p)] ∧ ∃ l vs dss, l + n = (linesOf t).length ∧ Reading K A S H q p (linesOf t) l H' vs dss) ⟨rfl, 0, [], [], Nat.zero_add _, R0⟩ ?_
      rintro n σ' H' ⟨rfl, l, vs, dss, hn, R⟩
      refine ⟨!decide (l = (linesOf t).length), eb_not (eb_B (ev_over (i := 1) R.mem rfl R.scan)), fun H3 e3 => ?_⟩
      have m3 := R.mem.ex e3
      have hs3 := R.scan.ex R.mem e3
      have hl3 := e3 _ _ R.lst
      have ha3 := R.arr.mono (.of R.mem e3)
      have hvl : vs.length = l := by rw [R.arr.length, List.length_map, R.len]
      by_cases hlt : l = (linesOf t).length
      · rw [decide_eq_true hlt, if_neg (by decide)]
        have way := R.way
        rw [hlt, List.drop_length] at way
        have way' : readFrom (linesOf t) 0 = .inr dss := by rw [way]; show Sum.inr (dss ++ []) = _; rw [List.append_nil]
        rw [way'] at k
        have mS : Mem S H3 := fun b s => m3 b (.inl (.inl s))
        refine ⟨.ref p, rfl, p, vs, rfl, .inl ⟨.inl (.inl hl3), fun t' ht' => ?_⟩⟩
        exact k _ _ ((R.ex.trans e3).trans (Evl.Ex.new ht')) (.newT mS (ha3.less fun a s => .inl (.inl s)) ht')
      · have hlt' : l < (linesOf t).length := by have := R.le; omega
        rw [decide_eq_false hlt, if_pos (by decide)]
        have hP : Plc (linesOf t) l 0 := ⟨many, T.each, by omega, fun _ => Nat.zero_le _, by omega⟩
        have hdrop : (linesOf t).drop l = (linesOf t).getD l [] :: (linesOf t).drop (l + 1) := by
          rw [List.drop_eq_getElem_cons hlt']
          simp [List.getD, hlt']
        have way := R.way
        rw [hdrop] at way
        have stopk : ∀ a, readFrom (linesOf t) 0 = .inl (l, a) → Stops1 A q H3 l a E := fun a ha p' H4 e4 hp' h4 => by
          rw [ha] at k
          refine k p' H4 (fun b o hbo => ?_) ?_ h4
          · exact e4 b o (fun z => by rw [z, hHq] at hbo; cases hbo) (e3 _ _ (R.ex _ _ hbo))
          · cases z : H p' with
            | none => rfl
            | some o => rw [e3 _ _ (R.ex _ _ z)] at hp'; cases hp'
        refine td_seq' (ts_append' (vs := vs) rfl hl3 (cx_taken (i := 1) m3 rfl hs3 hP hlt' ?_))
        have plus_q : (plus (plus S q) p) q := .inl (.inr rfl)
        cases hw : takenW ((linesOf t).getD l []) with
        | inl a => exact stopk a (by rw [way]; unfold readFrom; rw [hw])
        | inr ds =>
          intro hdl u H4 e4 m4 hs4 ru
          have hl4 : H4 p = some (.lst vs) := e4 _ _ npq hl3
          refine ⟨p, vs, u, rfl, rfl, hl4, by rw [sizeLine_eq]; omega, ?_⟩
          have x4 : ExS (plus (plus S q) p) H3 H4 := Ex1.exS m3 plus_q e4 hs4.there
          have x5 : ExS (plus (plus S q) p) H4 (upd H4 p (.lst (vs ++ [u]))) := ExS.put m4 (.inr rfl)
          have hs5 : ScanAt K A (plus (plus S q) p) (upd H4 p (.lst (vs ++ [u]))) q (linesOf t) l ds.length := by
            obtain ⟨s', dx, vl, g, r⟩ := hs4
            exact ⟨s', dx, vl, by rw [upd_ne (Ne.symm npq)]; exact g, r.mono x5⟩
          have hws := (T.each _ (getD_mem hlt')).1
          have hP5 : Plc (linesOf t) l ds.length := ⟨many, T.each, by omega, fun _ => hdl, by omega⟩
          have ah : aheadO (linesOf t) l ds.length = ((linesOf t).getD l [])[ds.length]? := ahead_line hlt'
          -- all that stood at the entry stands
          have ex5 : ∀ b o, H b = some o → (upd H4 p (.lst (vs ++ [u]))) b = some o := fun b o hbo => by
            rw [upd_ne (fun z => by rw [z, hHp] at hbo; cases hbo)]
            exact e4 b o (fun z => by rw [z, hHq] at hbo; cases hbo) (e3 _ _ (R.ex _ _ hbo))
          refine cx_endline (i := 1) x5.mem rfl hs5 hP5 ?_
          by_cases hmore : ds.length < ((linesOf t).getD l []).length
          · rw [if_pos (.inl (by rw [ah, List.getElem?_eq_getElem hmore]; rfl))]
            have hr : readFrom (linesOf t) 0 = .inl (l, ds.length) := by
              rw [way]; unfold readFrom; rw [hw]
              show (match (if ds.length < ((linesOf t).getD l []).length then (.inl (l, ds.length) : (Nat × Nat) ⊕ List (List D)) else _) with | .inl x => _ | .inr r => _) = _
              rw [if_pos hmore]
            rw [hr] at k
            intro p' H6 e6 hp' h6
            refine k p' H6 (fun b o hbo => e6 _ _ (ex5 b o hbo)) ?_ h6
            cases z : H p' with
            | none => rfl
            | some o => rw [ex5 _ _ z] at hp'; cases hp'
          · rw [if_neg (by
              rintro (z | z)
              · rw [ah, List.getElem?_eq_none (by omega)] at z; cases z
              · exact hlt z)]
            intro H6 e6 hs6
            have x6 : ExS (plus (plus S q) p) (upd H4 p (.lst (vs ++ [u]))) H6 := Ex1.exS x5.mem plus_q e6 hs6.there
            refine ⟨n - 1, by omega, rfl, l + 1, vs ++ [u], dss ++ [ds], by omega, e6 _ _ npq upd_same, ?_, by rw [List.length_append, R.len]; rfl, hs6, x6.mem, fun b o hbo => e6 b o (fun z => by rw [z, hHq] at hbo; cases hbo) (ex5 b o hbo), hlt', ?_⟩
            · rw [List.map_append]
              exact (((ha3.mono x4).mono x5).mono x6).app (.cons ((ru.mono x5).mono x6) .nil)
            · rw [way]
              show (match (match takenW ((linesOf t).getD l []) with
                | .inl a => (.inl (l, a) : (Nat × Nat) ⊕ List (List D))
                | .inr ds => if ds.length < ((linesOf t).getD l []).length then .inl (l, ds.length) else match readFrom ((linesOf t).drop (l + 1)) (l + 1) with
                  | .inl x => .inl x
                  | .inr dss => .inr (ds :: dss)) with | .inl x => _ | .inr r => _) = _
              rw [hw]
              show (match (if ds.length < ((linesOf t).getD l []).length then (.inl (l, ds.length) : (Nat × Nat) ⊕ List (List D)) else match readFrom ((linesOf t).drop (l + 1)) (l + 1) with
                  | .inl x => .inl x
                  | .inr dss => .inr (ds :: dss)) with | .inl x => _ | .inr r => _) = _
              rw [if_neg hmore]
              cases readFrom ((linesOf t).drop (l + 1)) (l + 1) with
              | inl x => rfl
              | inr r => show Sum.inr (dss ++ ds :: r) = Sum.inr (dss ++ [ds] ++ r); rw [List.append_assoc]; rfl
  · have hf : d.isStr = false := by cases d <;> first | rfl | exact absurd ⟨_, rfl⟩ hd
    have k' : Stops A H 0 0 E := by cases d <;> first | exact k | exact absurd ⟨_, rfl⟩ hd
    refine ts_ifseq (b := false) ((eb_and (b := true) hs fun z => by rw [hf] at z; cases z).is (by rw [hf]; rfl)) fun H1 e1 => ?_
    rw [if_neg Bool.false_ne_true]
    refine tn_par ?_
    refine ⟨v, rfl, S, v, d, rfl, m.ex e1, r.mono (.of m e1), hin, ?_⟩
    cases d <;> first | exact k'.mono e1 | exact absurd ⟨_, rfl⟩ hd
end
end Nv
set_option Elab.async false
set_option linter.all false
set_option maxRecDepth 100000
set_option maxHeartbeats 4000000
/-! Promises of the law's own defs: pen, draw, pick. -/
namespace Nv
open PySem PySem.Spec PyProof.Rows L2 StX NvZ
def penK (ra : Addr) (a : Nat) (r : Int) : List (Key × V) := [(.inr "row", .ref ra), (.inr "at", .int a), (.inr "rest", .int r)]
def PenAt (K : PySem.W.Frag) (S : Addr → Prop) (H : Hp) (p : Addr) (n : Nat) : Prop :=
  S p ∧ ∃ ra ns a r, H p = some (.dK (penK ra a r)) ∧ Rp K S H (.ref ra) (.lst (List.map D.int ns)) ∧ ns.length ≤ 80 ∧ a ≤ n ∧ 0 ≤ r
section
variable {K : PySem.W.Frag} {A : Ads} {S : Addr → Prop} {σ : L2.St} {H H' : Hp} {E : XK} {p : Addr} {n : Nat}
theorem fmod_rng {i j : Int} (h : 0 < j) : 0 ≤ i.fmod j ∧ i.fmod j < j := by
  rw [Int.fmod_eq_emod_of_nonneg _ (by omega)]
  exact ⟨Int.emod_nonneg _ (by omega), Int.emod_lt_of_pos _ h⟩
theorem fdiv_nn {i j : Int} (hi : 0 ≤ i) (h : 0 < j) : 0 ≤ i.fdiv j := by
  rw [Int.fdiv_eq_ediv_of_nonneg _ (by omega)]
  exact Int.ediv_nonneg hi (by omega)
theorem r_mul {i j : Int} (h : CMul i j) : R2D K S rMulI H (.int i) (.int j) (.int (i * j)) := r_I h fun _ => .int _
theorem r_mod {i j : Int} (h : j ≠ 0) : R2D K S rModI H (.int i) (.int j) (.int (i.fmod j)) := r_I h fun _ => .int _
theorem r_div {i j : Int} (h : CDivN i j) : R2D K S rDivI H (.int i) (.int j) (.int (i.fdiv j)) := r_I h fun _ => .int _
theorem r_pow {i j : Int} (h : CPow i j) : R2D K S rPowI H (.int i) (.int j) (.int (i ^ j.toNat)) := r_I h fun _ => .int _
theorem ra_abs {i : Int} : RAD K S rAbs H [.int i] (.int (if i < 0 then -i else i)) := fun H1 _ vs r Q q => by
  obtain ⟨v, rfl, r1⟩ := r.one
  cases r1
  exact ⟨i, rfl, q _ _ (Evl.Ex.refl _) (.int _)⟩
theorem ev_dget {i : Nat} {k : Str} {kvs : List (Key × V)} {v : V} {d : D} (m : Mem S H) (hσ : σ[i]? = some (some (.ref p))) (hp : H p = some (.dK kvs)) (hv : valV kvs (.inr k) = some v) (r : Rp K S H v d) : EvD K S (tDGet (tVar i) (tC (.str k))) σ H d := fun H1 e Q q => by
  refine ⟨.ref p, hσ, p, v, rfl, ?_, q v H1 (Evl.Ex.refl _) (r.mono (.of m e))⟩
  have := DGet.k (k := Sum.inr k) (e _ _ hp)
  rwa [hv] at this
theorem ts_dput {i : Nat} {k : Str} {kvs : List (Key × V)} {te : TE} {d : D} {r : TS} {D0 : Ends} (m : Mem S H) (hσ : σ[i]? = some (some (.ref p))) (hp : H p = some (.dK kvs)) (hl : kvs.length ≤ 100) (h : EvD K S te σ H d)
    (q : ∀ v H1, Ex H H1 → Rp K S H1 v d → r D0 σ (upd H1 p (.dK (putK kvs (.inr k) v)))) : tSeq (sDPut (tVar i) (tC (.str k)) te) r D0 σ H := h H (Evl.Ex.refl _) _ fun v H1 e1 r1 =>
  ⟨.ref p, hσ, p, _, rfl, DPut.k (k := Sum.inr k) (e1 _ _ hp) (by rw [sizeLine_eq]; omega), q v H1 e1 r1⟩
theorem ts_parset {i j : Nat} {ta : TA} {d1 d2 : D} {r : TS} {D0 : Ends} (h : EvA K S ta σ H [d1, d2]) (q : ∀ v w H1, Ex H H1 → Rp K S H1 v d1 → Rp K S H1 w d2 → r D0 ((σ.set i (some v)).set j (some w)) H1) : tSeq (tPar i j ta) r D0 σ H := h H (Evl.Ex.refl _) _ fun vs H1 e1 r1 => by
  obtain ⟨v, w, rfl, r1, r2⟩ := r1.two
  exact ⟨v, w, rfl, q v w H1 e1 r1 r2⟩
theorem tn_seq {t r : TS} {D0 : Ends} (h : tSeq t r D0 σ H) : tNext { D0 with nx := tSeq t r D0 } σ H := h
theorem ts_asgnx {te : TE} {i : Nat} {d : D} {r : TS} {D0 : Ends} (h : EvD K S te σ H d) (q : ∀ v H1, Ex H H1 → Rp K S H1 v d → r D0 (σ.set i (some v)) H1) : tAsg te (gName i) { D0 with nx := r D0 } σ H := h H (Evl.Ex.refl _) _ q
def spDraw (K : PySem.W.Frag) : Sp := fun vs H Q _ => ∃ S p n most, vs = [.ref p, .int most] ∧ Mem S H ∧ PenAt K S H p n ∧ n ≤ 1000000 ∧ 1 ≤ most ∧ most ≤ 1000 ∧ ∀ k H', 0 ≤ k → k < most → Ex1 p H H' → Mem S H' → PenAt K S H' p (n + 1) → Q (.int k) H'
theorem put_at {ra : Addr} {a : Nat} {r : Int} : putK (penK ra a r) (.inr "at") (.int ((a : Int) + 1)) = penK ra (a + 1) r := rfl
theorem put_rest {ra : Addr} {a : Nat} {r z : Int} : putK (penK ra a r) (.inr "rest") (.int z) = penK ra a z := rfl
theorem pr_draw (vs : List V) (H : Hp) (Q : VK) (E : XK) (h : spDraw K vs H Q E) : t_law_draw K A E { nx := fun _ H' => Q .non H', rt := Q } (start ["pen", "most", "great", "at", "row", "cell", "number", "mixed"] vs) H := by
  obtain ⟨S, p, n, most, rfl, m, ⟨sp, ra, ns, a, r, hp, hrow, hns, han, hr⟩, hn, hm1, hm2, k⟩ := h
  show t_law_draw K A E { nx := fun _ H' => Q .non H', rt := Q } [some (.ref p), some (.int most), none, none, none, none, none, none] H
  have rest1 : EvD K S (tDGet (tVar 0) (tC (.str "rest"))) [some (.ref p), some (.int most), none, none, none, none, none, none] H (.int r) := ev_dget m rfl hp rfl (.int r)
  refine ts_ifseq (eb_T (ev_op (K := K) m rest1 ev_int r_gt)) fun H1 e1 => ?_
  have m1 := m.ex e1
  have hp1 := e1 _ _ hp
  have hrow1 := hrow.mono (.of m e1)
  -- what a put of rest leaves
  have penR : ∀ (H2 : Hp) (a' : Nat) (r' z : Int), Mem S H2 → Rp K S H2 (.ref ra) (.lst (List.map D.int ns)) → a' ≤ n + 1 → 0 ≤ z → PenAt K S (upd H2 p (.dK (penK ra a' z))) p (n + 1) := fun H2 a' r' z m2 hrow2 ha' hz =>
    ⟨sp, ra, ns, a', z, upd_same, hrow2.mono (ExS.put m2 sp), hns, ha', hz⟩
  by_cases hr0 : (0 : Int) < r
  · rw [decide_eq_true hr0, if_pos rfl]
    refine ts_set (K := K) (ev_cb (ea_cons m1 (ev_dget m1 rfl hp1 rfl (.int r)) ea_nil) ra_int) fun u H2 e2 ru => ?_
    cases ru
    have m2 := m1.ex e2
    refine ts_dput (K := K) (S := S) (d := .int (r.fdiv most)) m2 rfl (e2 _ _ hp1) (by show 3 ≤ 100; decide) (ev_op m2 (ev_var (i := 2) m2 rfl (.int r)) (ev_var (i := 1) m2 rfl (.int most)) (r_div ⟨by omega, by omega⟩)) fun v H3 e3 rv => ?_
    cases rv
    rw [put_rest]
    have m3 := m2.ex e3
    have mP := (ExS.put (o := .dK (penK ra a (r.fdiv most))) m3 sp).mem
    refine ts_ret (K := K) (S := S) (ev_op mP (ev_cb (ea_cons mP (ev_var (i := 2) mP rfl (.int r)) ea_nil) ra_int) (ev_var (i := 1) mP rfl (.int most)) (r_mod (by omega))) fun w H4 e4 rw' => ?_
    cases rw'
    have hf := fmod_rng (i := r) (j := most) (by omega)
    have hPen := penR H3 a r (r.fdiv most) m3 (hrow1.mono (.of m1 (e2.trans e3))) (by omega) (fdiv_nn hr (by omega))
    refine k _ H4 hf.1 hf.2 (((Ex.ex1 e1).trans (Ex.ex1 (e2.trans e3))).trans (ex1_put.trans (Ex.ex1 e4))) (mP.ex e4) ?_
    obtain ⟨s', ra', ns', a', r', g1, g2, g3, g4, g5⟩ := hPen
    exact ⟨s', ra', ns', a', r', e4 _ _ g1, g2.mono (.of mP e4), g3, g4, g5⟩
  · rw [decide_eq_false hr0, if_neg Bool.false_ne_true]
    have hsm : ∀ (x : Int), x.natAbs < 2 ^ 60 → -(2 ^ 64) < x ∧ x < 2 ^ 64 := fun x hx => by omega
    refine tn_seq (ts_parset (K := K) (ea_cons m1 (ev_dget m1 rfl hp1 rfl (.int a)) (ea_cons m1 (ev_dget m1 rfl hp1 rfl hrow1) ea_nil)) fun v w H2 e2 rv rw' => ?_)
    cases rv
    have m2 := m1.ex e2
    refine ts_dput (K := K) (S := S) (σ := [some (.ref p), some (.int most), none, some (.int a), some w, none, none, none]) (d := .int ((a : Int) + 1)) m2 rfl (e2 _ _ hp1) (by show 3 ≤ 100; decide) (ev_op m2 (ev_var (i := 3) m2 rfl (.int a)) ev_int r_add) fun v H3 e3 rv => ?_
    cases rv
    rw [put_at]
    have m3 := m2.ex e3
    have mP := (ExS.put (o := .dK (penK ra (a + 1) r)) m3 sp)
    have m4 := mP.mem
    have hpen4 : (upd H3 p (.dK (penK ra (a + 1) r))) p = some (.dK (penK ra (a + 1) r)) := upd_same
    have ex4 : Ex1 p H (upd H3 p (.dK (penK ra (a + 1) r))) := (Ex.ex1 ((e1.trans e2).trans e3)).trans ex1_put
    have hw4 : Rp K S (upd H3 p (.dK (penK ra (a + 1) r))) w (.lst (List.map D.int ns)) := (rw'.mono (.of m2 e3)).mono mP
    have hrow4 : Rp K S (upd H3 p (.dK (penK ra (a + 1) r))) (.ref ra) (.lst (List.map D.int ns)) := (hrow1.mono (.of m1 (e2.trans e3))).mono mP
    generalize upd H3 p (.dK (penK ra (a + 1) r)) = H4 at m4 hpen4 ex4 hw4 hrow4
    refine ts_set (K := K) (S := S) (σ := [some (.ref p), some (.int most), none, some (.int a), some w, none, none, none]) (ev_op m4 (ev_op m4 (ev_int (i := 29317)) (ev_var (i := 3) m4 rfl (.int a)) (r_mul (.inl (by omega)))) (ev_int (i := 8499)) r_add) fun v5 H5 e5 r5 => ?_
    have m5 := m4.ex e5
    have hw5 := hw4.mono (.of m4 e5)
    obtain ⟨c5, rfl⟩ : ∃ c, v5 = .int c := by cases r5; exact ⟨_, rfl⟩
    -- the cell, whichever
    have cellT : ∀ (c : Int) (H6 : Hp), Ex H5 H6 → tSeq (tAsg (tIf (tAnd (tB (tCB (rIsi K) (tCons (tVar 5) (tCons (tC (.ty "int")) tNil)))) (tNot (tB (tCB (rIsi K) (tCons (tVar 5) (tCons (tC (.ty "bool")) tNil)))))) (tVar 5) (tC (.int 0))) (gName 6))
        (tSeq (tIfS (tAnd (tTest (tOp rLtI (tVar 3) (tCB (rLenV K) (tCons (tVar 4) tNil)))) (tTest (tOp rGeI (tCB rAbs (tCons (tVar 6) tNil)) (tOp rPowI (tC (.int 10)) (tC (.int 18)))))) (tSeq (tAsg (tOp rAddI (tOp rMulI (tC (.int 2)) (tOp rSubI (tCB rAbs (tCons (tVar 6) tNil)) (tOp rPowI (tC (.int 10)) (tC (.int 18))))) (tCB rIntI (tCons (tOp rLtI (tVar 6) (tC (.int 0))) tNil))) (gName 2))
        (tSeq (sDPut (tVar 0) (tC (.str "rest")) (tOp rDivI (tCB rIntI (tCons (tVar 2) tNil)) (tVar 1)))
        (tRet (tOp rModI (tCB rIntI (tCons (tVar 2) tNil)) (tVar 1))))) tNext)
        (tSeq (tAsg (tOp rModI (tCB rIntI (tCons (tOp rPowI (tOp rAddI (tOp rAddI (tOp rModI (tCB rIntI (tCons (tVar 6) tNil)) (tC (.int 2147483549))) (tOp rMulI (tC (.int 100835)) (tVar 3))) (tC (.int 8499))) (tC (.int 5))) tNil)) (tC (.int 2147483563))) (gName 7))
        (tSeq (tAsg (tOp rModI (tCB rIntI (tCons (tOp rPowI (tOp rAddI (tOp rAddI (tOp rMulI (tVar 7) (tOp rAddI (tOp rMulI (tC (.int 2)) (tVar 3)) (tC (.int 8029)))) (tOp rMulI (tOp rMulI (tC (.int 109263)) (tVar 3)) (tVar 3))) (tC (.int 100835))) (tC (.int 3))) tNil)) (tC (.int 2147483579))) (gName 7))
        (tRet (tOp rModI (tCB rIntI (tCons (tOp rDivI (tVar 7) (tC (.int 32))) tNil)) (tVar 1)))))) { nx := fun _ H' => Q .non H', rt := Q } [some (.ref p), some (.int most), none, some (.int a), some w, some (.int c), none, none] H6 := fun c H6 e6 => by
      have m6 := m5.ex e6
      have i1 : EvB (tB (tCB (rIsi K) (tCons (tVar 5) (tCons (tC (.ty "int")) tNil)))) [some (.ref p), some (.int most), none, some (.int a), some w, some (.int c), none, none] H6 true := eb_B (r_isi (d := .int c) (ev_var (i := 5) m6 rfl (.int c)) trivial (ki_int rfl))
      have i2 : EvB (tB (tCB (rIsi K) (tCons (tVar 5) (tCons (tC (.ty "bool")) tNil)))) [some (.ref p), some (.int most), none, some (.int a), some w, some (.int c), none, none] H6 false := eb_B (r_isi (d := .int c) (ev_var (i := 5) m6 rfl (.int c)) trivial (ki_bool rfl))
      refine ts_set (K := K) (S := S) (d := .int c) (ev_if (b := true) (eb_and i1 fun _ => eb_not i2) (fun _ => ev_var (i := 5) m6 rfl (.int c)) fun z => by cases z) fun v7 H7 e7 r7 => ?_
      cases r7
      have m7 := m6.ex e7
      have hw7 := hw5.mono (.of m5 (e6.trans e7))
      have habs : EvD K S (tCB rAbs (tCons (tVar 6) tNil)) [some (.ref p), some (.int most), none, some (.int a), some w, some (.int c), some (.int c), none] H7 (.int (if c < 0 then -c else c)) := ev_cb (ea_cons m7 (ev_var (i := 6) m7 rfl (.int c)) ea_nil) ra_abs
      have hpow : EvD K S (tOp rPowI (tC (.int 10)) (tC (.int 18))) [some (.ref p), some (.int most), none, some (.int a), some w, some (.int c), some (.int c), none] H7 (.int ((10 : Int) ^ (18 : Int).toNat)) := ev_op m7 ev_int ev_int (r_pow ⟨by decide, by decide, by decide⟩)
      have hlt : EvB (tTest (tOp rLtI (tVar 3) (tCB (rLenV K) (tCons (tVar 4) tNil)))) [some (.ref p), some (.int most), none, some (.int a), some w, some (.int c), some (.int c), none] H7 (decide ((a : Int) < (lenD (.lst (List.map D.int ns)) : Nat))) := eb_T (ev_op m7 (ev_var (i := 3) m7 rfl (.int a)) (ev_cb (ea_cons m7 (ev_var (i := 4) m7 rfl hw7) ea_nil) (ra_len rfl)) r_lt)
      refine ts_ifseq (σ := [some (.ref p), some (.int most), none, some (.int a), some w, some (.int c), some (.int c), none]) (eb_and hlt fun _ => eb_T (ev_op m7 habs hpow r_ge)) fun H8 e8 => ?_
      have m8 := m7.ex e8
      have hp8 : H8 p = some (.dK (penK ra (a + 1) r)) := e8 _ _ (e7 _ _ (e6 _ _ (e5 _ _ hpen4)))
      have hrow8 : Rp K S H8 (.ref ra) (.lst (List.map D.int ns)) := hrow4.mono (.of m4 (((e5.trans e6).trans e7).trans e8))
      have ex8 : Ex1 p H H8 := ex4.trans (Ex.ex1 (((e5.trans e6).trans e7).trans e8))
      by_cases hbig : (decide ((a : Int) < (lenD (.lst (List.map D.int ns)) : Nat)) && decide ((10 : Int) ^ (18 : Int).toNat ≤ (if c < 0 then -c else c))) = true
      · rw [if_pos hbig]
        have hge : (10 : Int) ^ (18 : Int).toNat ≤ (if c < 0 then -c else c) := by
          rw [Bool.and_eq_true] at hbig
          exact of_decide_eq_true hbig.2
        generalize hG : (2 * ((if c < 0 then -c else c) - (10 : Int) ^ (18 : Int).toNat) + (if decide (c < 0) = true then 1 else 0) : Int) = G
        have hG0 : 0 ≤ G := by
          rw [← hG]
          split <;> omega
        refine ts_set (K := K) (S := S) (d := .int G) (σ := [some (.ref p), some (.int most), none, some (.int a), some w, some (.int c), some (.int c), none]) ((ev_op m8 (ev_op m8 (ev_int (i := 2)) (ev_op m8 (habs.mono e8) (hpow.mono e8) r_sub) (r_mul (.inl (by omega)))) (ev_cb (ea_cons m8 (ev_op m8 (ev_var (i := 6) m8 rfl (.int c)) (ev_int (i := 0)) r_lt) ea_nil) ra_intB) r_add).is (by rw [← hG])) fun v9 H9 e9 r9 => ?_
        cases r9
        have m9 := m8.ex e9
        refine ts_dput (K := K) (S := S) (σ := [some (.ref p), some (.int most), some (.int G), some (.int a), some w, some (.int c), some (.int c), none]) (d := .int (G.fdiv most)) m9 rfl (e9 _ _ hp8) (by show 3 ≤ 100; decide) (ev_op m9 (ev_cb (ea_cons m9 (ev_var (i := 2) m9 rfl (.int G)) ea_nil) ra_int) (ev_var (i := 1) m9 rfl (.int most)) (r_div ⟨by omega, by omega⟩)) fun v H10 e10 rv => ?_
        cases rv
        rw [put_rest]
        have m10 := m9.ex e10
        have hPen := penR H10 (a + 1) r (G.fdiv most) m10 (hrow8.mono (.of m8 (e9.trans e10))) (by omega) (fdiv_nn hG0 (by omega))
        have mQ := (ExS.put (o := .dK (penK ra (a + 1) (G.fdiv most))) m10 sp).mem
        refine ts_ret (K := K) (S := S) (ev_op mQ (ev_cb (ea_cons mQ (ev_var (i := 2) mQ rfl (.int G)) ea_nil) ra_int) (ev_var (i := 1) mQ rfl (.int most)) (r_mod (by omega))) fun w H11 e11 rw' => ?_
        cases rw'
        have hf := fmod_rng (i := G) (j := most) (by omega)
        refine k _ H11 hf.1 hf.2 ((ex8.trans (Ex.ex1 (e9.trans e10))).trans (ex1_put.trans (Ex.ex1 e11))) (mQ.ex e11) ?_
        obtain ⟨s', ra', ns', a', r', g1, g2, g3, g4, g5⟩ := hPen
        exact ⟨s', ra', ns', a', r', e11 _ _ g1, g2.mono (.of mQ e11), g3, g4, g5⟩
      · rw [if_neg hbig]
        have f1 := fmod_rng (i := c) (j := 2147483549) (by decide)
        generalize hm5 : ((c.fmod 2147483549 + 100835 * (a : Int) + 8499) ^ (5 : Int).toNat).fmod 2147483563 = M1
        have f2 := fmod_rng (i := (c.fmod 2147483549 + 100835 * (a : Int) + 8499) ^ (5 : Int).toNat) (j := 2147483563) (by decide)
        rw [hm5] at f2
        refine tn_seq (ts_set (K := K) (S := S) (σ := [some (.ref p), some (.int most), none, some (.int a), some w, some (.int c), some (.int c), none]) (d := .int M1) ((ev_op m8 (ev_cb (ea_cons m8 (ev_op m8 (ev_op m8 (ev_op m8 (ev_op m8 (ev_cb (ea_cons m8 (ev_var (i := 6) m8 rfl (.int c)) ea_nil) ra_int) (ev_int (i := 2147483549)) (r_mod (by decide))) (ev_op m8 (ev_int (i := 100835)) (ev_var (i := 3) m8 rfl (.int a)) (r_mul (.inl (by omega)))) r_add) (ev_int (i := 8499)) r_add) (ev_int (i := 5)) (r_pow ⟨by decide, by decide, by omega⟩)) ea_nil) ra_int) (ev_int (i := 2147483563)) (r_mod (by decide))).is (by rw [← hm5])) fun v9 H9 e9 r9 => ?_)
        cases r9
        have m9 := m8.ex e9
        have b1 : 0 ≤ M1 * (2 * (a : Int) + 8029) := Int.mul_nonneg f2.1 (by omega)
        have b2 : M1 * (2 * (a : Int) + 8029) ≤ 2147483563 * 2010000 := Int.mul_le_mul (by omega) (by omega) (by omega) (by omega)
        have b3 : 0 ≤ 109263 * (a : Int) * (a : Int) := Int.mul_nonneg (by omega) (by omega)
        have b4 : 109263 * (a : Int) * (a : Int) ≤ 109263 * 1000001 * 1000001 := Int.mul_le_mul (by omega) (by omega) (by omega) (by omega)
        generalize hm3 : ((M1 * (2 * (a : Int) + 8029) + 109263 * (a : Int) * (a : Int) + 100835) ^ (3 : Int).toNat).fmod 2147483579 = M2
        have f3 := fmod_rng (i := (M1 * (2 * (a : Int) + 8029) + 109263 * (a : Int) * (a : Int) + 100835) ^ (3 : Int).toNat) (j := 2147483579) (by decide)
        rw [hm3] at f3
        refine ts_set (K := K) (S := S) (σ := [some (.ref p), some (.int most), none, some (.int a), some w, some (.int c), some (.int c), some (.int M1)]) (d := .int M2) ((ev_op m9 (ev_cb (ea_cons m9 (ev_op m9 (ev_op m9 (ev_op m9 (ev_op m9 (ev_var (i := 7) m9 rfl (.int M1)) (ev_op m9 (ev_op m9 (ev_int (i := 2)) (ev_var (i := 3) m9 rfl (.int a)) (r_mul (.inl (by omega)))) (ev_int (i := 8029)) r_add) (r_mul (.inl (by omega)))) (ev_op m9 (ev_op m9 (ev_int (i := 109263)) (ev_var (i := 3) m9 rfl (.int a)) (r_mul (.inl (by omega)))) (ev_var (i := 3) m9 rfl (.int a)) (r_mul (.inl (by omega)))) r_add) (ev_int (i := 100835)) r_add) (ev_int (i := 3)) (r_pow ⟨by decide, by decide, by omega⟩)) ea_nil) ra_int) (ev_int (i := 2147483579)) (r_mod (by decide))).is (by rw [← hm3])) fun v10 H10 e10 r10 => ?_
        cases r10
        have m10 := m9.ex e10
        refine ts_ret (K := K) (S := S) (σ := [some (.ref p), some (.int most), none, some (.int a), some w, some (.int c), some (.int c), some (.int M2)]) (ev_op m10 (ev_cb (ea_cons m10 (ev_op m10 (ev_var (i := 7) m10 rfl (.int M2)) (ev_int (i := 32)) (r_div ⟨by decide, by decide⟩)) ea_nil) ra_int) (ev_var (i := 1) m10 rfl (.int most)) (r_mod (by omega))) fun w H11 e11 rw' => ?_
        cases rw'
        have hf := fmod_rng (i := M2.fdiv 32) (j := most) (by omega)
        have x11 := (e9.trans e10).trans e11
        exact k _ H11 hf.1 hf.2 (ex8.trans (Ex.ex1 x11)) (m10.ex e11) ⟨sp, ra, ns, a + 1, r, x11 _ _ hp8, hrow8.mono (.of m8 x11), hns, by omega, hr⟩
    have hne : EvB (tTest (tOp (rNeD K) (tVar 4) (tLst tNil))) [some (.ref p), some (.int most), none, some (.int a), some w, some (.int c5), none, none] H5 (!eqD (.lst (List.map D.int ns)) (.lst [])) := by
      refine eb_T (ev_op m5 (ev_var (i := 4) m5 rfl hw5) (ev_lst m5 ea_nil (by show 0 ≤ _; omega)) (r_neD ?_ rfl ?_ (by show 1 ≤ 64; decide)))
      · show plainA (List.map D.int ns) = true
        have : ∀ l : List Int, plainA (List.map D.int l) = true := fun l => by induction l with | nil => rfl | cons x l ih => exact ih
        exact this ns
      · show depA (List.map D.int ns) + 1 ≤ 64
        have : ∀ l : List Int, depA (List.map D.int l) = 0 := fun l => by induction l with | nil => rfl | cons x l ih => show max 0 (depA _) = 0; rw [ih]; rfl
        rw [this]; decide
    refine ts_ifseq (σ := [some (.ref p), some (.int most), none, some (.int a), some w, some (.int c5), none, none]) hne fun H6 e6 => ?_
    have m6 := m5.ex e6
    cases ns with
    | nil =>
      rw [if_neg (by decide)]
      exact cellT c5 H6 e6
    | cons n0 nr =>
      rw [if_pos (by rfl)]
      have hlen : (0 : Int) < ((lenD (.lst (List.map D.int (n0 :: nr))) : Nat) : Int) := by
        show (0 : Int) < (((List.map D.int (n0 :: nr)).length : Nat) : Int)
        rw [List.length_map, List.length_cons]; omega
      have fl := fmod_rng (i := (a : Int)) hlen
      obtain ⟨j, hj⟩ : ∃ j : Nat, (a : Int).fmod ((lenD (.lst (List.map D.int (n0 :: nr))) : Nat) : Int) = (j : Int) := ⟨_, (Int.toNat_of_nonneg fl.1).symm⟩
      have hjl : j < (n0 :: nr).length := by
        have : lenD (.lst (List.map D.int (n0 :: nr))) = (n0 :: nr).length := by show (List.map D.int (n0 :: nr)).length = _; rw [List.length_map]
        rw [this] at fl hj
        omega
      refine ts_asgnx (K := K) (S := S) (d := .int ((n0 :: nr)[j])) (σ := [some (.ref p), some (.int most), none, some (.int a), some w, some (.int c5), none, none]) (ev_op m6 (ev_var (i := 4) m6 rfl (hw5.mono (.of m5 e6))) ((ev_op m6 (ev_cb (ea_cons m6 (ev_var (i := 3) m6 rfl (.int a)) ea_nil) ra_int) (ev_cb (ea_cons m6 (ev_var (i := 4) m6 rfl (hw5.mono (.of m5 e6))) ea_nil) (ra_len rfl)) (r_mod (by omega))).is (by rw [hj])) (r_ixL (by rw [List.getElem?_map, List.getElem?_eq_getElem hjl]; rfl))) fun v7 H7 e7 r7 => ?_
      cases r7
      exact cellT _ H7 (e6.trans e7)
end
end Nv
set_option Elab.async false
set_option linter.all false
set_option maxRecDepth 100000
set_option maxHeartbeats 4000000
/-! Promises of the law's own defs: pen, pick, figure, step_line. -/
namespace Nv
open PySem PySem.Spec PyProof.Rows L2 StX NvZ
section
variable {K : PySem.W.Frag} {A : Ads} {S : Addr → Prop} {σ : L2.St} {H H' : Hp} {E : XK} {p : Addr} {n : Nat}
theorem sql_ex {a : Addr} {xs : List V} (e : Ex H H') (h : SqL K H a xs) : SqL K H' a xs := by
  rcases h with (h | ⟨o, h⟩) | h
  · exact .inl (.inl (e _ _ h))
  · exact .inl (.inr ⟨o, e _ _ h⟩)
  · exact .inr h
theorem ev_copy {a : Addr} {ns : List Int} {σ : L2.St} (m : Mem S H) (hσ : σ[0]? = some (some (.ref a))) (hw : ∀ v : V, (((wipe σ [1]).set 1 (some v)))[1]? = some (some v)) (hwp : ∀ v : V, wipe ((wipe σ [1]).set 1 (some v)) [1] = wipe σ [1]) (hs : SqL K H a (ns.map V.int)) (hl : ns.length ≤ 1000) :
    EvD K S (tLc (iSeq K (tVar 0)) (gName 1) tYes (tVar 1) [1]) σ H (.lst (ns.map D.int)) := fun H1 e1 Q q => by
  have hs1 := sql_ex e1 hs
  refine ⟨.ref a, hσ, .l a, rfl, ⟨_, hs1⟩, fun D hD => ?_⟩
  have m1 := m.ex e1
  refine lc_list (K := K) (a := a) (xs := ns.map V.int) (fun i H2 => Ex H1 H2 ∧ H2 D = some (.lst ((ns.map V.int).take i))) ⟨Evl.Ex.new hD, by rw [List.take_zero]; exact upd_same⟩ (fun i H2 _ h => sql_ex h.1 hs1) (fun i x H2 hx h => ?_) fun H2 h => ?_
  · refine ⟨hwp x, ?_⟩
    simp only [tYes, if_true]
    refine ⟨x, hw x, (ns.map V.int).take i, h.2, by rw [List.length_take, List.length_map, sizeLine_eq]; omega, fun b o hb => ?_, ?_⟩
    · rw [upd_ne (fun z => by rw [z, hD] at hb; cases hb)]
      exact h.1 _ _ hb
    · rw [upd_same, List.take_add_one, hx]; rfl
  · rw [List.length_map] at h
    have h2 : H2 D = some (.lst (ns.map V.int)) := by
      rw [h.2, List.take_of_length_le (by rw [List.length_map]; exact Nat.le_refl _)]
    exact q _ H2 h.1 (.lst ⟨h2, m1.new hD⟩ (rpA_ints ns))
theorem cut_to' {ds : List D} {n : Nat} : cutD ds none (some (n : Int)) = ds.take n := by
  unfold cutD
  rw [HT.sIx_nat, HT.sIx_none, List.drop_zero, Nat.sub_zero]
  by_cases h : n ≤ ds.length
  · rw [Nat.min_eq_left h]
  · rw [Nat.min_eq_right (by omega), List.take_of_length_le (Nat.le_refl _), List.take_of_length_le (by omega)]
def spPen (K : PySem.W.Frag) : Sp := fun vs H Q _ => ∃ (a : Addr) (ns : List Int), vs = [.ref a] ∧ SqL K H a (ns.map V.int) ∧ ns.length ≤ 1000 ∧ ∀ p H', Ex H H' → H p = none → Mem (fun b => b = p) H' → PenAt K (fun b => b = p) H' p 0 → Q (.ref p) H'
theorem pr_pen (vs : List V) (H : Hp) (Q : VK) (E : XK) (h : spPen K vs H Q E) : t_law_pen K A E { nx := fun _ H' => Q .non H', rt := Q } (start ["script", "cell"] vs) H := by
  obtain ⟨a, ns, rfl, hs, hl, k⟩ := h
  show tDisp _ [some (.ref a), none] H Q
  intro p hp
  have eN : Ex H (upd H p (.dK [])) := Evl.Ex.new hp
  have mP : Mem (fun b => b = p) (upd H p (.dK [])) := fun b s => by
    have s' : b = p := s
    rw [s']
    exact ⟨_, upd_same⟩
  have hc := ev_slL mP (ev_copy (σ := [some (.ref a), none]) mP rfl (fun _ => rfl) (fun _ => rfl) (sql_ex eN hs) hl) eo_none (eo_some (K := K) (S := fun b => b = p) (ev_int (i := 80)))
  refine hc _ (Evl.Ex.refl _) _ fun u H2 e2 r2 => ?_
  have hp2 := e2 _ _ (show (upd H p (.dK [])) p = some (.dK []) from upd_same)
  have hcut : cutD (ns.map D.int) none (some 80) = (ns.take 80).map D.int := by
    have := cut_to' (ds := ns.map D.int) (n := 80)
    rw [← List.map_take] at this
    exact this
  rw [hcut] at r2
  obtain ⟨ra, rfl⟩ : ∃ ra, u = .ref ra := by cases r2; exact ⟨_, rfl⟩
  refine ⟨hp2, penK ra 0 0, rfl, (by show 3 ≤ 15; decide), ?_⟩
  show Q (.ref p) (upd H2 p (.dK (penK ra 0 0)))
  have m2 := mP.ex e2
  refine k p _ (fun b o hb => ?_) hp (ExS.put m2 rfl).mem ⟨rfl, ra, ns.take 80, 0, 0, upd_same, r2.mono (ExS.put m2 rfl), by rw [List.length_take]; omega, Nat.le_refl _, by omega⟩
  rw [upd_ne (fun z => by rw [z, hp] at hb; cases hb)]
  exact e2 _ _ (eN _ _ hb)
/-! ### pick -/
def spPick (K : PySem.W.Frag) : Sp := fun vs H Q _ => ∃ S p n vw ds, vs = [.ref p, vw] ∧ Mem S H ∧ PenAt K S H p n ∧ n ≤ 1000000 ∧ Rp K S H vw (.lst ds) ∧ 1 ≤ ds.length ∧ ds.length ≤ 1000 ∧ ∀ d v H', d ∈ ds → Ex1 p H H' → Mem S H' → PenAt K S H' p (n + 1) → Rp K S H' v d → Q v H'
theorem PenAt.ex (m : Mem S H) (e : Ex H H') (h : PenAt K S H p n) : PenAt K S H' p n := by
  obtain ⟨s, ra, ns, a, r, g1, g2, g3⟩ := h
  exact ⟨s, ra, ns, a, r, e _ _ g1, g2.mono (.of m e), g3⟩
theorem PenAt.there (h : PenAt K S H p n) : ∃ o, H p = some o := by
  obtain ⟨s, ra, ns, a, r, g1, _⟩ := h
  exact ⟨_, g1⟩
theorem cx_draw {i : Nat} {te : TE} {most : Int} {Q : VK} (m : Mem S H) (hσ : σ[i]? = some (some (.ref p))) (hp : PenAt K S H p n) (hn : n ≤ 1000000) (h : EvD K S te σ H (.int most)) (h1 : 1 ≤ most) (h2 : most ≤ 1000)
    (q : ∀ k H', 0 ≤ k → k < most → Ex1 p H H' → Mem S H' → PenAt K S H' p (n + 1) → Q (.int k) H') : tCall (spDraw K) [] E0 (tCons (tVar i) (tCons te tNil)) σ H Q := ⟨_, hσ, h H (Evl.Ex.refl _) _ fun v H1 e1 r1 => by
  cases r1
  exact ⟨S, p, n, most, rfl, m.ex e1, hp.ex m e1, hn, h1, h2, fun k H' k0 k1 e mm pp => q k H' k0 k1 ((Ex.ex1 e1).trans e) mm pp⟩⟩
theorem pr_pick (vs : List V) (H : Hp) (Q : VK) (E : XK) (h : spPick K vs H Q E) : t_law_pick K A E (spDraw K) { nx := fun _ H' => Q .non H', rt := Q } (start ["pen", "some"] vs) H := by
  obtain ⟨S, p, n, vw, ds, rfl, m, hp, hn, hw, hl1, hl2, k⟩ := h
  show tOp (rIx K) (tVar 1) _ [some (.ref p), some vw] H Q
  refine ⟨vw, rfl, ?_⟩
  refine cx_draw (i := 0) m rfl hp hn (ev_cb (ea_cons m (ev_var (i := 1) m rfl hw) ea_nil) (ra_len rfl)) (by show (1 : Int) ≤ (ds.length : Nat); omega) (by show ((ds.length : Nat) : Int) ≤ 1000; omega) fun j H1 j0 j1 e1 m1 hp1 => ?_
  obtain ⟨jn, rfl⟩ : ∃ jn : Nat, j = jn := ⟨j.toNat, by omega⟩
  have hj : jn < ds.length := by
    have : ((jn : Nat) : Int) < (ds.length : Nat) := j1
    omega
  have hw1 := hw.mono (Ex1.exS m hp.1 e1 hp1.there)
  exact r_ixL (List.getElem?_eq_getElem hj) H1 (Evl.Ex.refl _) _ _ hw1 (.int _) Q fun v H2 e2 r2 => k _ v H2 (List.getElem_mem hj) (e1.trans (Ex.ex1 e2)) (m1.ex e2) (hp1.ex m1 e2) r2
/-! ### figure -/
def figsTo (n : Nat) : List Str := (List.range n).map fun i : Nat => istr i
abbrev spLFigure (K : PySem.W.Frag) : Sp := Pure K 3 (in3 fun d e g => (∃ w, d = .str w) ∧ e = .int 0 ∧ ∃ n : Nat, g = .int ((n : Int) - 1) ∧ 1 ≤ n ∧ n ≤ 10) (at3 fun d e g => match d, g with
  | .str w, .int h => .bl (decide (w ∈ figsTo (h + 1).toNat))
  | _, _ => .non)
theorem pr_lfigure (vs : List V) (H : Hp) (Q : VK) (E : XK) (h : spLFigure K vs H Q E) : t_law_figure K A E { nx := fun _ H' => Q .non H', rt := Q } (start ["word", "low", "high", "number"] vs) H := pure_of h fun S ds hn m r hp => by
  obtain ⟨d, e, g, rfl, ⟨w, rfl⟩, rfl, n, rfl, h1, h2⟩ := hp
  obtain ⟨v, u, t, rfl, r1, r2, r3⟩ := r.three
  have hi := ei_range2 (ea_cons m (ev_var (σ := start ["word", "low", "high", "number"] [v, u, t]) (i := 1) m rfl r2) (ev_a1 (ev_op m (ev_var (i := 2) m rfl r3) (ev_int (i := 1)) r_add))) (by decide) (by decide) (by omega) (by omega)
  have hn' : ((n : Int) - 1 + 1 - 0).toNat = n := by omega
  rw [hn'] at hi
  have hlc := ev_map (i := 3) (te := tCB rStrI (tCons (tVar 3) tNil)) (f := fun d => match d with | .int i => .str (istr i) | _ => .non) m hi (by rw [List.length_map, List.length_range]; omega) fun S' H' m' up ex x d hd rx => by
    obtain ⟨i, hi, rfl⟩ := List.mem_map.mp hd
    have hin : i < n := by simpa using hi
    refine ⟨rfl, ev_cb (ea_cons m' (ev_var m' rfl rx) ea_nil) (ra_str ?_)⟩
    have : (0 : Int) + (i : Int) = ((i : Nat) : Int) := by omega
    rw [this]; exact small_nat (by omega)
  have e : ((List.range n).map fun i : Nat => D.int (0 + (i : Int))).map (fun d => match d with | .int i => D.str (istr i) | _ => .non) = (figsTo n).map D.str := by
    unfold figsTo
    rw [List.map_map, List.map_map]
    refine List.map_congr_left fun i _ => ?_
    show D.str (istr (0 + (i : Int))) = D.str (istr (i : Int))
    rw [Int.zero_add]
  rw [e] at hlc
  refine (es_ret (ev_op m (ev_var (i := 0) m rfl r1) hlc r_inL)).is ?_
  show D.bl (if false = true then _ else decide (w ∈ figsTo n)) = D.bl (decide (w ∈ figsTo ((n : Int) - 1 + 1).toNat))
  rw [if_neg (by decide), show ((n : Int) - 1 + 1).toNat = n by omega]
/-! ### step_line -/
abbrev spLine (K : PySem.W.Frag) : Sp := spText K
theorem pr_line (vs : List V) (H : Hp) (Q : VK) (E : XK) (h : spLine K vs H Q E) : t_law_step_line K A E { nx := fun _ H' => Q .non H', rt := Q } (start ["step", "part"] vs) H := pure_of h fun S ds hn m r hp => by
  obtain ⟨d, rfl, ds, rfl, hst⟩ := hp
  obtain ⟨v, rfl, r1⟩ := r.one
  obtain ⟨s1, s2, _⟩ := words_short hst
  obtain ⟨w, f, ps, rfl, hf, hl, hl3, _, _, hps⟩ := step_parts hst
  obtain ⟨d', hq', htail⟩ := ev_tail (σ := start ["step", "part"] [v]) m (.inr rfl) (ev_var (i := 0) m rfl r1)
  have hw := walks_Q hq'
  have hi := ei_seq m htail hw
  rw [items_Q hq'] at hi
  have hlc := ev_map (i := 1) (te := tIf (tTest (tOp rIsN (tVar 1) (tC .non))) (tC (.str "-")) (tCB rStrI (tCons (tVar 1) tNil))) (f := fun d => .str (partW d)) m hi (by omega) fun S' H' m' up ex x d hd rx => by
    refine ⟨rfl, ?_⟩
    rcases hps d hd with rfl | ⟨i, rfl, h0, h1⟩
    · exact ev_if (b := true) (eb_T (ev_op m' (ev_var (i := 1) m' rfl rx) ev_non r_isN)) (fun _ => ev_str) fun z => by cases z
    · refine ev_if (b := false) (eb_T (ev_op m' (ev_var (i := 1) m' rfl rx) ev_non r_isN)) (fun z => by cases z) fun _ => ev_cb (ea_cons m' (ev_var m' rfl rx) ea_nil) (ra_str ?_)
      rcases (by omega : i = 0 ∨ i = 1 ∨ i = 2 ∨ i = 3) with rfl | rfl | rfl | rfl <;> decide +kernel
  have h3 := sum_le (g := fun x : Str => x.length) s1
  have e1 : (" " : Str).length = 1 := by decide +kernel
  have fin := ev_op m (ev_lst m (ev_a1 (ev_op m (ev_var (i := 0) m rfl r1) ev_int (r_ixT (j := 0) rfl))) (by show 1 ≤ _; decide)) hlc (r_cat m (by simp; omega))
  have ew : [D.str w] ++ ps.map (fun d => D.str (partW d)) = (wordsOf (.str w :: ps)).map D.str := by
    show D.str w :: _ = List.map D.str (w :: ps.map partW)
    rw [List.map_cons, List.map_map]
    rfl
  rw [ew] at fin
  refine (es_ret (ev_join m ev_str fin (by rw [e1]; omega))).is rfl
end
end Nv
set_option Elab.async false
set_option linter.all false
set_option maxRecDepth 100000
set_option maxHeartbeats 4000000
/-! Promises of the law's own defs: step_form. -/
namespace Nv
open PySem PySem.Spec PyProof.Rows L2 StX NvZ
def boundsOf (w : Str) : Option (List Int) :=
  if w = "new" then some [4, 3] else if w = "read" then some [4, 4, 2] else if w = "write" then some [4, 2, 4] else if w = "copy" then some [4, 4] else if w = "drop" then some [4] else if w = "tick" then some [] else none
def bd (bs : List Int) : D := .lst (bs.map D.int)
def psB : List (Str × D) := [("new", bd [4, 3]), ("read", bd [4, 4, 2]), ("write", bd [4, 2, 4]), ("copy", bd [4, 4]), ("drop", bd [4]), ("tick", bd [])]
def boundsD (w : Str) : D := match boundsOf w with
  | some bs => bd bs
  | none => .non
theorem word_cases (w : Str) : (w = "new" ∧ formOf w = some "rk" ∧ boundsOf w = some [4, 3]) ∨ (w = "read" ∧ formOf w = some "rrf" ∧ boundsOf w = some [4, 4, 2]) ∨ (w = "write" ∧ formOf w = some "rfv" ∧ boundsOf w = some [4, 2, 4]) ∨
    (w = "copy" ∧ formOf w = some "rr" ∧ boundsOf w = some [4, 4]) ∨ (w = "drop" ∧ formOf w = some "r" ∧ boundsOf w = some [4]) ∨ (w = "tick" ∧ formOf w = some "" ∧ boundsOf w = some []) ∨ (formOf w = none ∧ boundsOf w = none ∧ w ≠ "new" ∧ w ≠ "read" ∧ w ≠ "write" ∧ w ≠ "copy" ∧ w ≠ "drop" ∧ w ≠ "tick") := by
  by_cases h1 : w = "new"
  · subst h1; exact .inl ⟨rfl, by decide +kernel, by decide +kernel⟩
  by_cases h2 : w = "read"
  · subst h2; exact .inr (.inl ⟨rfl, by decide +kernel, by decide +kernel⟩)
  by_cases h3 : w = "write"
  · subst h3; exact .inr (.inr (.inl ⟨rfl, by decide +kernel, by decide +kernel⟩))
  by_cases h4 : w = "copy"
  · subst h4; exact .inr (.inr (.inr (.inl ⟨rfl, by decide +kernel, by decide +kernel⟩)))
  by_cases h5 : w = "drop"
  · subst h5; exact .inr (.inr (.inr (.inr (.inl ⟨rfl, by decide +kernel, by decide +kernel⟩))))
  by_cases h6 : w = "tick"
  · subst h6; exact .inr (.inr (.inr (.inr (.inr (.inl ⟨rfl, by decide +kernel, by decide +kernel⟩)))))
  refine .inr (.inr (.inr (.inr (.inr (.inr ⟨?_, ?_, h1, h2, h3, h4, h5, h6⟩)))))
  · unfold formOf; rw [if_neg h1, if_neg h2, if_neg h3, if_neg h4, if_neg h5, if_neg h6]
  · unfold boundsOf; rw [if_neg h1, if_neg h2, if_neg h3, if_neg h4, if_neg h5, if_neg h6]
theorem lookup_B (w : Str) : (psB.lookup w).getD .non = boundsD w := by
  unfold boundsD
  rcases word_cases w with ⟨rfl, _, h⟩ | ⟨rfl, _, h⟩ | ⟨rfl, _, h⟩ | ⟨rfl, _, h⟩ | ⟨rfl, _, h⟩ | ⟨rfl, _, h⟩ | ⟨_, h, h1, h2, h3, h4, h5, h6⟩
  · rw [h]; rfl
  · rw [h]; rfl
  · rw [h]; rfl
  · rw [h]; rfl
  · rw [h]; rfl
  · rw [h]; rfl
  · rw [h]
    have e : ∀ k : Str, w ≠ k → (w == k) = false := fun k h => by simpa using h
    show (List.lookup w [("new", bd [4, 3]), ("read", bd [4, 4, 2]), ("write", bd [4, 2, 4]), ("copy", bd [4, 4]), ("drop", bd [4]), ("tick", bd [])]).getD .non = .non
    simp only [List.lookup_cons, e _ h1, e _ h2, e _ h3, e _ h4, e _ h5, e _ h6]
    rfl
def withinLt (d : D) (m : Int) : Bool := match d with
  | .int x => decide (0 ≤ x) && decide (x < m)
  | _ => false
def partL (w : Str) (i : Nat) (d : D) (m : Int) : Bool := (d.isNon && (decide (w = "write") && decide (i = 2))) || withinLt d m
def allL (w : Str) : List D → List Int → Nat → Bool
  | p :: ps, b :: bs, i => partL w i p b && allL w ps bs (i + 1)
  | _, _, _ => true
def formL (ds : List D) : Bool := match ds with
  | .str w :: ps => match boundsOf w with
    | some bs => decide (ps.length = bs.length) && allL w ps bs 0 && (!decide (w = "copy") || !eqD (ps.getD 0 .non) (ps.getD 1 .non))
    | none => false
  | _ => false
theorem within_lt (d : D) (n : Int) : withinD d 0 n = withinLt d (n + 1) := by
  cases d with
  | int x =>
    show (decide (0 ≤ x) && decide (x ≤ n)) = (decide (0 ≤ x) && decide (x < n + 1))
    congr 1
    rw [decide_eq_decide]; omega
  | _ => rfl
theorem partOk_r (d : D) : partOk "r" d = withinLt d 4 := by
  unfold partOk
  rw [decide_eq_false (by decide +kernel), Bool.false_and, Bool.false_or, show mostI "r" = 3 by decide +kernel, within_lt]; rfl
theorem partOk_k (d : D) : partOk "k" d = withinLt d 3 := by
  unfold partOk
  rw [decide_eq_false (by decide +kernel), Bool.false_and, Bool.false_or, show mostI "k" = 2 by decide +kernel, within_lt]; rfl
theorem partOk_f (d : D) : partOk "f" d = withinLt d 2 := by
  unfold partOk
  rw [decide_eq_false (by decide +kernel), Bool.false_and, Bool.false_or, show mostI "f" = 1 by decide +kernel, within_lt]; rfl
theorem partOk_v (d : D) : partOk "v" d = (d.isNon || withinLt d 4) := by
  unfold partOk
  rw [decide_eq_true rfl, Bool.true_and, show mostI "v" = 3 by decide +kernel, within_lt]; rfl
theorem partL_no {w : Str} {i : Nat} {d : D} {m : Int} (h : w ≠ "write" ∨ i ≠ 2) : partL w i d m = withinLt d m := by
  unfold partL
  rcases h with h | h
  · rw [decide_eq_false h, Bool.false_and, Bool.and_false, Bool.false_or]
  · rw [decide_eq_false h, Bool.and_false, Bool.and_false, Bool.false_or]
theorem partL_v {d : D} {m : Int} : partL "write" 2 d m = (d.isNon || withinLt d m) := by
  unfold partL
  rw [decide_eq_true rfl, decide_eq_true rfl, Bool.true_and, Bool.and_true]
/-- the package's form and the law's are one -/
theorem form_eq (ds : List D) : formL ds = stepL ds := by
  match ds with
  | .str w :: ps =>
    have e1 : stepL (.str w :: ps) = (match formOf w with
      | some f => decide (ps.length = f.length) && (((sorts f).zip ps).all fun p => partOk p.1 p.2) && (!decide (w = "copy") || !eqD (ps.getD 0 .non) (ps.getD 1 .non))
      | none => false) := rfl
    have e2 : formL (.str w :: ps) = (match boundsOf w with
      | some bs => decide (ps.length = bs.length) && allL w ps bs 0 && (!decide (w = "copy") || !eqD (ps.getD 0 .non) (ps.getD 1 .non))
      | none => false) := rfl
    rw [e1, e2]
    have core : ∀ (f : Str) (bs : List Int), f.length = bs.length → (ps.length = bs.length → allL w ps bs 0 = (((sorts f).zip ps).all fun p => partOk p.1 p.2)) → formOf w = some f → boundsOf w = some bs → (match boundsOf w with
      | some bs => decide (ps.length = bs.length) && allL w ps bs 0 && (!decide (w = "copy") || !eqD (ps.getD 0 .non) (ps.getD 1 .non))
      | none => false) = (match formOf w with
      | some f => decide (ps.length = f.length) && (((sorts f).zip ps).all fun p => partOk p.1 p.2) && (!decide (w = "copy") || !eqD (ps.getD 0 .non) (ps.getD 1 .non))
      | none => false) := fun f bs hl ha hf hb => by
      rw [hf, hb]
      show (decide (ps.length = bs.length) && allL w ps bs 0 && _) = (decide (ps.length = f.length) && _ && _)
      rw [hl]
      by_cases h : ps.length = bs.length
      · rw [ha h]
      · rw [decide_eq_false h]; rfl
    rcases word_cases w with ⟨rfl, hf, hb⟩ | ⟨rfl, hf, hb⟩ | ⟨rfl, hf, hb⟩ | ⟨rfl, hf, hb⟩ | ⟨rfl, hf, hb⟩ | ⟨rfl, hf, hb⟩ | ⟨hf, hb, _⟩
    · refine core _ _ (by decide +kernel) (fun h => ?_) hf hb
      match ps, h with
      | [a, b], _ =>
        rw [show sorts "rk" = (["r", "k"] : List Str) by decide +kernel]
        show (partL _ 0 a 4 && (partL _ 1 b 3 && true)) = (partOk "r" a && (partOk "k" b && true))
        rw [partL_no (.inr (by decide)), partL_no (.inr (by decide)), partOk_r, partOk_k]
    · refine core _ _ (by decide +kernel) (fun h => ?_) hf hb
      match ps, h with
      | [a, b, c], _ =>
        rw [show sorts "rrf" = (["r", "r", "f"] : List Str) by decide +kernel]
        show (partL _ 0 a 4 && (partL _ 1 b 4 && (partL _ 2 c 2 && true))) = (partOk "r" a && (partOk "r" b && (partOk "f" c && true)))
        rw [partL_no (.inr (by decide)), partL_no (.inr (by decide)), partL_no (.inl (by decide +kernel)), partOk_r, partOk_r, partOk_f]
    · refine core _ _ (by decide +kernel) (fun h => ?_) hf hb
      match ps, h with
      | [a, b, c], _ =>
        rw [show sorts "rfv" = (["r", "f", "v"] : List Str) by decide +kernel]
        show (partL _ 0 a 4 && (partL _ 1 b 2 && (partL _ 2 c 4 && true))) = (partOk "r" a && (partOk "f" b && (partOk "v" c && true)))
        rw [partL_no (.inr (by decide)), partL_no (.inr (by decide)), partL_v, partOk_r, partOk_f, partOk_v]
    · refine core _ _ (by decide +kernel) (fun h => ?_) hf hb
      match ps, h with
      | [a, b], _ =>
        rw [show sorts "rr" = (["r", "r"] : List Str) by decide +kernel]
        show (partL _ 0 a 4 && (partL _ 1 b 4 && true)) = (partOk "r" a && (partOk "r" b && true))
        rw [partL_no (.inr (by decide)), partL_no (.inr (by decide)), partOk_r, partOk_r]
    · refine core _ _ (by decide +kernel) (fun h => ?_) hf hb
      match ps, h with
      | [a], _ =>
        rw [show sorts "r" = (["r"] : List Str) by decide +kernel]
        show (partL _ 0 a 4 && true) = (partOk "r" a && true)
        rw [partL_no (.inr (by decide)), partOk_r]
    · refine core _ _ (by decide +kernel) (fun h => ?_) hf hb
      match ps, h with
      | [], _ => rfl
    · rw [hf, hb]
  | [] => rfl
  | .non :: _ => rfl
  | .bl _ :: _ => rfl
  | .int _ :: _ => rfl
  | .lst _ :: _ => rfl
  | .tup _ :: _ => rfl
  | .dic :: _ => rfl
  | .ins _ :: _ => rfl
section
variable {K : PySem.W.Frag} {A : Ads} {S : Addr → Prop} {σ : L2.St} {H H' : Hp} {E : XK}
abbrev tBounds : List (TE × TE) := [((tC (.str "new")), (tLst (tCons (tC (.int 4)) (tCons (tC (.int 3)) tNil)))), ((tC (.str "read")), (tLst (tCons (tC (.int 4)) (tCons (tC (.int 4)) (tCons (tC (.int 2)) tNil))))), ((tC (.str "write")), (tLst (tCons (tC (.int 4)) (tCons (tC (.int 2)) (tCons (tC (.int 4)) tNil))))), ((tC (.str "copy")), (tLst (tCons (tC (.int 4)) (tCons (tC (.int 4)) tNil)))), ((tC (.str "drop")), (tLst (tCons (tC (.int 4)) tNil))), ((tC (.str "tick")), (tLst tNil))]
theorem ep_bounds (m : Mem S H) : EvP K S σ H tBounds psB :=
  .cons (ev_lst m (ea_cons m ev_int (ea_cons m ev_int ea_nil)) (by decide)) (.cons (ev_lst m (ea_cons m ev_int (ea_cons m ev_int (ea_cons m ev_int ea_nil))) (by decide)) (.cons (ev_lst m (ea_cons m ev_int (ea_cons m ev_int (ea_cons m ev_int ea_nil))) (by decide))
    (.cons (ev_lst m (ea_cons m ev_int (ea_cons m ev_int ea_nil)) (by decide)) (.cons (ev_lst m (ea_cons m ev_int ea_nil) (by decide)) (.cons (ev_lst m ea_nil (by decide)) .nil)))))
theorem ev_bounds {te : TE} {w : Str} (m : Mem S H) (h : EvD K S te σ H (.str w)) : EvD K S (tDGet1 (tDisp tBounds) te) σ H (boundsD w) :=
  (ev_getdisp m (fun S' H' m' _ _ => ep_bounds m') (by decide +kernel) (by decide) h).is (lookup_B w)
abbrev g3 (K : PySem.W.Frag) : TG := gTup K 2 (gCons (gName 2) (gCons (gTup K 2 (gCons (gName 3) (gCons (gName 4) gNil))) gNil))
theorem g3_of {x : V} {d1 d2 d3 : D} {Q : L2.St → Hp → Prop} (r : Rp K S H x (.tup [d1, .tup [d2, d3]])) (h : ∀ u v w, Rp K S H u d1 → Rp K S H v d2 → Rp K S H w d3 → Q (((σ.set 2 (some u)).set 3 (some v)).set 4 (some w)) H) : g3 K x σ H Q := by
  cases r with
  | @tup a xs _ h1 h2 =>
    obtain ⟨u, y, rfl, r1, r2⟩ := h2.two
    cases r2 with
    | @tup b ys _ h3 h4 =>
      obtain ⟨v, w, rfl, r3, r4⟩ := h4.two
      exact ⟨a, _, rfl, h1.sq, rfl, u, [.ref b], rfl, .ref b, [], rfl, b, _, rfl, h3.sq, rfl, v, [w], rfl, w, [], rfl, rfl, rfl, h u v w r1 r3 r4⟩
abbrev spForm (K : PySem.W.Frag) : Sp := spStep K
theorem allL_false {w : Str} : ∀ {ps : List D} {bs : List Int} {i j : Nat} {p : D} {b : Int}, ps[j]? = some p → bs[j]? = some b → partL w (i + j) p b = false → allL w ps bs i = false
  | [], _, _, _, _, _, h, _, _ => by cases h
  | _ :: _, [], _, _, _, _, _, h, _ => by cases h
  | p :: ps, b :: bs, i, 0, _, _, h1, h2, h3 => by
    cases h1; cases h2
    show (partL w i p b && _) = false
    rw [show partL w i p b = false from h3]; rfl
  | p :: ps, b :: bs, i, j + 1, _, _, h1, h2, h3 => by
    have := allL_false (i := i + 1) (j := j) (ps := ps) (bs := bs) h1 h2 (by rw [show i + 1 + j = i + (j + 1) by omega]; exact h3)
    show (partL w i p b && allL w ps bs (i + 1)) = false
    rw [this, Bool.and_false]
theorem allL_true {w : Str} : ∀ {ps : List D} {bs : List Int} {i : Nat}, (∀ j p b, ps[j]? = some p → bs[j]? = some b → partL w (i + j) p b = true) → allL w ps bs i = true
  | [], _, _, _ => by unfold allL; rfl
  | _ :: _, [], _, _ => by unfold allL; rfl
  | p :: ps, b :: bs, i, h => by
    show (partL w i p b && allL w ps bs (i + 1)) = true
    rw [show partL w i p b = true from h 0 p b rfl rfl, allL_true (i := i + 1) fun j p' b' h1 h2 => by rw [show i + 1 + j = i + (j + 1) by omega]; exact h (j + 1) p' b' h1 h2]; rfl
theorem pr_form (vs : List V) (H : Hp) (Q : VK) (E : XK) (h : spForm K vs H Q E) : t_law_step_form K A E { nx := fun _ H' => Q .non H', rt := Q } (start ["value", "bounds", "at", "part", "most", "is_none"] vs) H := by
  obtain ⟨S, dd, hl, m, r0, ⟨d, rfl, hin⟩, k⟩ := h
  obtain ⟨v, rfl, r1⟩ := r0.one
  replace k : ∀ v H', Ex H H' → Rp K S H' v (.bl (isStepD d)) → Q v H' := k
  have hbase : d.base = true := by cases d <;> first | rfl | cases hin
  show t_law_step_form K A E { nx := fun _ H' => Q .non H', rt := Q } [some v, none, none, none, none, none] H
  have hlisted : EvB (tB (tCB (rIsiT K) (tCons (tVar 0) (tCons (tTup (tCons (tC (.ty "list")) (tCons (tC (.ty "tuple")) tNil))) tNil)))) [some v, none, none, none, none, none] H d.isLT := eb_B (r_isiLT m (ev_var m rfl r1) (okT_base hbase) (ki_LT hbase))
  have retF : ∀ (H1 : Hp) (σ : L2.St), Ex H H1 → isStepD d = false → (tRet (tC (.bl false))) { nx := fun _ H' => Q .non H', rt := Q } σ H1 := fun H1 σ e1 hf => ts_ret (K := K) (S := S) ev_bl fun u H2 e2 r2 => k u H2 (e1.trans e2) (by rw [hf]; exact r2)
  by_cases hq : ∃ ds, SeqD d ds
  · obtain ⟨ds, hq⟩ := hq
    have hin' : ds.all D.base = true ∧ headOk ds = true ∧ ds.length ≤ 1000 := by
      rcases hq with rfl | rfl <;> (simp only [stepIn, Bool.and_eq_true, decide_eq_true_eq] at hin; exact ⟨hin.1.1, hin.1.2, hin.2⟩)
    have hst : isStepD d = formL ds := by rw [form_eq]; rcases hq with rfl | rfl <;> rfl
    have hT := isLT_Q hq
    have hlen : EvB (tTest (tOp (rEqD K) (tCB (rLenV K) (tCons (tVar 0) tNil)) (tC (.int 0)))) [some v, none, none, none, none, none] H (decide ((ds.length : Int) = 0)) := by
      have := eb_T (ev_op m (ev_cb (ea_cons m (ev_var m (σ := [some v, none, none, none, none, none]) (i := 0) rfl r1) ea_nil) (ra_len (lenOk_Q hq))) (ev_int (i := 0)) (r_eqD rfl rfl (Nat.zero_le _) (Nat.zero_le _)))
      rwa [eqD_int, lenD_Q hq] at this
    cases ds with
    | nil =>
      refine ts_ifseq (b := true) ((eb_or (eb_not hlisted) fun _ => eb_or (b := true) hlen fun z => by cases z).is (by rw [hT]; rfl)) fun H1 e1 => ?_
      rw [if_pos rfl]
      exact retF H1 _ e1 (by rw [hst]; rfl)
    | cons e ps =>
      have hlen0 : decide (((e :: ps).length : Int) = 0) = false := by simp; omega
      have h0 : EvD K S (tOp (rIx K) (tVar 0) (tC (.int 0))) [some v, none, none, none, none, none] H e := ev_op m (ev_var m rfl r1) ev_int (r_ixQ (j := 0) hq rfl)
      have hb : e.base = true ∧ ps.all D.base = true := by simpa using hin'.1
      have hisi : EvB (tB (tCB (rIsi K) (tCons (tOp (rIx K) (tVar 0) (tC (.int 0))) (tCons (tC (.ty "str")) tNil)))) [some v, none, none, none, none, none] H e.isStr := eb_B (r_isi h0 (okT_base hb.1) (ki_str hb.1))
      refine ts_ifseq (b := !e.isStr) ((eb_or (eb_not hlisted) fun _ => eb_or hlen fun _ => eb_not hisi).is (by rw [hT, hlen0]; rfl)) fun H1 e1 => ?_
      by_cases hs : ∃ w, e = .str w
      · obtain ⟨w, rfl⟩ := hs
        have hwok : PyData.strOk w = true := hin'.2.1
        rw [if_neg (by show ¬ (!true) = true; decide)]
        have m1 := m.ex e1
        have r1a := r1.mono (.of m e1)
        refine tn_seq (ts_set (K := K) (S := S) (ev_bounds m1 (h0.mono e1)) fun bv H2 e2 rb => ?_)
        have m2 := m1.ex e2
        have r1b := r1a.mono (.of m1 e2)
        show tSeq _ _ _ [some v, some bv, none, none, none, none] H2
        have isn : EvB (tTest (tOp rIsN (tVar 1) (tC .non))) [some v, some bv, none, none, none, none] H2 (boundsD w).isNon := eb_T (ev_op m2 (ev_var (i := 1) m2 rfl rb) ev_non r_isN)
        cases hbo : boundsOf w with
        | none =>
          have hbd : boundsD w = .non := by unfold boundsD; rw [hbo]
          rw [hbd] at isn
          refine ts_ifseq (b := true) ((eb_or (b := true) isn fun z => by cases z).is rfl) fun H3 e3 => ?_
          rw [if_pos rfl]
          exact retF H3 _ ((e1.trans e2).trans e3) (by rw [hst]; show (match boundsOf w with | some bs => _ | none => false) = false; rw [hbo])
        | some bs =>
          have hbd : boundsD w = bd bs := by unfold boundsD; rw [hbo]
          have hstE : isStepD d = (decide (ps.length = bs.length) && allL w ps bs 0 && (!decide (w = "copy") || !eqD (ps.getD 0 .non) (ps.getD 1 .non))) := by
            rw [hst]
            show (match boundsOf w with | some bs => _ | none => false) = _
            rw [hbo]
          have hbs : bs.length ≤ 3 := by
            rcases word_cases w with ⟨_, _, h⟩ | ⟨_, _, h⟩ | ⟨_, _, h⟩ | ⟨_, _, h⟩ | ⟨_, _, h⟩ | ⟨_, _, h⟩ | ⟨_, h, _⟩ <;> (rw [hbo] at h; first | cases h | skip) <;> simp
          rw [hbd] at isn rb
          have hne : EvB (tTest (tOp (rNeD K) (tCB (rLenV K) (tCons (tVar 0) tNil)) (tOp rAddI (tCB (rLenV K) (tCons (tVar 1) tNil)) (tC (.int 1))))) [some v, some bv, none, none, none, none] H2 (!decide (ps.length = bs.length)) := by
            refine (eb_T (ev_op m2 (ev_cb (ea_cons m2 (ev_var (i := 0) m2 rfl r1b) ea_nil) (ra_len (lenOk_Q hq))) (ev_op m2 (ev_cb (ea_cons m2 (ev_var (i := 1) m2 rfl rb) ea_nil) (ra_len rfl)) ev_int r_add) (r_neD rfl rfl (Nat.zero_le _) (Nat.zero_le _)))).is ?_
            rw [eqD_int, lenD_Q hq]
            show (!decide (((D.str w :: ps).length : Int) = (((bs.map D.int).length : Nat) : Int) + 1)) = _
            rw [List.length_cons, List.length_map, decide_eq_decide.mpr (show ((ps.length + 1 : Nat) : Int) = (bs.length : Int) + 1 ↔ ps.length = bs.length by omega)]
          refine ts_ifseq (b := !decide (ps.length = bs.length)) ((eb_or isn fun _ => hne).is rfl) fun H3 e3 => ?_
          have m3 := m2.ex e3
          have r1c := r1b.mono (.of m2 e3)
          have rb3 := rb.mono (.of m2 e3)
          by_cases hl : ps.length = bs.length
          · rw [decide_eq_true hl, if_neg (by decide)]
            obtain ⟨d', hq', htail⟩ := ev_tail (σ := [some v, some bv, none, none, none, none]) m3 hq (ev_var (i := 0) m3 rfl r1c)
            have hi := ei_ezip m3 (ea_cons m3 htail (ev_a1 (ev_var (i := 1) m3 rfl rb3))) (walks_Q hq') rfl
            rw [items_Q hq'] at hi
            refine tn_seq (ts_forseq (E := { nx := fun _ H' => Q .non H', rt := Q }) hi fun H4 e4 => ?_)
            have m4 := m3.ex e4
            have e14 : Ex H H4 := ((e1.trans e2).trans e3).trans e4
            refine ⟨fun i σ' H' => Ex H4 H' ∧ (∃ a b c e, σ' = [some v, some bv, a, b, c, e]) ∧ ∀ j p b, j < i → ps[j]? = some p → bs[j]? = some b → partL w j p b = true, ⟨Evl.Ex.refl _, ⟨_, _, _, _, rfl⟩, fun j p b hj => by omega⟩, fun i σ' H' p => ⟨S, m4.ex p.1, Up.ex m4 p.1⟩, ?_, ?_⟩
            · rintro i dd σ' H' hd ⟨p1, ⟨a, b, c, e, rfl⟩, p3⟩ x H'' ex hx
              rw [List.getElem?_mapIdx, Option.map_eq_some_iff] at hd
              obtain ⟨⟨p, bD⟩, hz, rfl⟩ := hd
              rw [List.getElem?_zip_eq_some] at hz
              obtain ⟨hzp, hzb⟩ := hz
              have hzb' : (bs.map D.int)[i]? = some bD := hzb
              rw [List.getElem?_map, Option.map_eq_some_iff] at hzb'
              obtain ⟨bb, hbb, rfl⟩ := hzb'
              have m5 := m4.ex p1
              have m6 := m5.ex ex
              have rx := hx S m5 (Up.ex m4 p1)
              have r1d := r1.mono (.of m ((e14.trans p1).trans ex))
              have hpb : p.base = true := List.all_eq_true.mp hb.2 p (List.mem_of_getElem? hzp)
              refine g3_of rx fun vi vp vb ri rp rb' => ?_
              have w0 : EvD K S (tOp (rIx K) (tVar 0) (tC (.int 0))) [some v, some bv, some vi, some vp, some vb, e] H'' (.str w) := ev_op m6 (ev_var m6 rfl r1d) ev_int (r_ixQ (j := 0) hq rfl)
              have hnone : EvD K S (tAndV (tOp rIsN (tVar 3) (tC .non)) (tAndV (tOp (rEqD K) (tOp (rIx K) (tVar 0) (tC (.int 0))) (tC (.str "write"))) (tOp (rEqD K) (tVar 2) (tC (.int 2))))) [some v, some bv, some vi, some vp, some vb, e] H'' (.bl (p.isNon && (decide (w = "write") && decide (i = 2)))) := by
                have q1 := ev_op m6 w0 (ev_str (i := "write")) (r_eqD (d1 := .str w) hwok (by decide +kernel) (Nat.zero_le _) (Nat.zero_le _))
                rw [eqD_str] at q1
                have q2 := ev_op m6 (ev_var (σ := [some v, some bv, some vi, some vp, some vb, e]) (i := 2) m6 rfl ri) (ev_int (i := 2)) (r_eqD rfl rfl (Nat.zero_le _) (Nat.zero_le _))
                rw [eqD_int] at q2
                have q3 : decide ((i : Int) = 2) = decide (i = 2) := by rw [decide_eq_decide]; omega
                rw [q3] at q2
                exact ev_and (ev_op m6 (ev_var (i := 3) m6 rfl rp) ev_non r_isN) fun _ => ev_and q1 fun _ => q2
              refine ts_set (K := K) (S := S) (σ := [some v, some bv, some vi, some vp, some vb, e]) hnone fun v5 H5 e5 r5 => ?_
              cases r5
              have m7 := m6.ex e5
              have rp7 := rp.mono (.of m6 e5)
              have rb7 := rb'.mono (.of m6 e5)
              generalize hB : (p.isNon && (decide (w = "write") && decide (i = 2))) = B5
              have t1 : EvB (tB (tVar 5)) [some v, some bv, some vi, some vp, some vb, some (.bl B5)] H5 B5 := eb_B (K := K) (ev_var (i := 5) m7 rfl (.bl B5))
              have t2 : EvB (tB (tCB (rIsi K) (tCons (tVar 3) (tCons (tC (.ty "int")) tNil)))) [some v, some bv, some vi, some vp, some vb, some (.bl B5)] H5 p.isInt := eb_B (r_isi (ev_var (i := 3) m7 rfl rp7) (okT_base hpb) (ki_int hpb))
              have t3 : EvB (tB (tCB (rIsi K) (tCons (tVar 3) (tCons (tC (.ty "bool")) tNil)))) [some v, some bv, some vi, some vp, some vb, some (.bl B5)] H5 p.isBool := eb_B (r_isi (ev_var (i := 3) m7 rfl rp7) (okT_base hpb) (ki_bool hpb))
              have t4 : p.isInt = true → p.isBool = false → EvB (tTest (tChain rLeI rLtI (tC (.int 0)) (tVar 3) (tVar 4))) [some v, some bv, some vi, some vp, some vb, some (.bl B5)] H5 (withinLt p bb) := fun g1 g2 => by
                cases p with
                | int x => exact eb_T (ev_chain m7 ev_int (ev_var (i := 3) m7 rfl rp7) r_le (fun _ => ev_var (i := 4) m7 rfl rb7) fun _ => r_lt)
                | bl b => cases g2
                | _ => cases g1
              have hbad : (!B5 && (!p.isInt || (p.isBool || !withinLt p bb))) = !partL w i p bb := by
                have : partL w i p bb = (B5 || withinLt p bb) := by unfold partL; rw [hB]
                rw [this]
                cases p <;> cases B5 <;> first | rfl | (cases withinLt (D.int _) bb <;> rfl) | simp [D.isInt, D.isBool, withinLt]
              refine ts_if (b := !partL w i p bb) (σ := [some v, some bv, some vi, some vp, some vb, some (.bl B5)]) ((eb_and (eb_not t1) fun _ => eb_or (eb_not t2) fun g1 => eb_or t3 fun g2 => eb_not (t4 (by simpa using g1) g2)).is hbad) fun H6 e6 => ?_
              have eAll : Ex H H6 := (((e14.trans p1).trans ex).trans e5).trans e6
              by_cases hg : partL w i p bb = true
              · rw [hg, if_neg (by decide)]
                refine ⟨((p1.trans ex).trans e5).trans e6, ⟨_, _, _, _, rfl⟩, fun j p' b' hj h1 h2 => ?_⟩
                rcases Nat.lt_succ_iff_lt_or_eq.mp hj with hj | rfl
                · exact p3 j p' b' hj h1 h2
                · rw [hzp] at h1; rw [hbb] at h2; cases h1; cases h2; exact hg
              · have hg' : partL w i p bb = false := by simpa using hg
                rw [hg', if_pos (by decide)]
                refine retF H6 _ eAll ?_
                rw [hstE, allL_false (i := 0) (j := i) hzp hbb (by rw [Nat.zero_add]; exact hg'), Bool.and_false]; rfl
            · rintro σ' H' ⟨p1, ⟨a, b, c, e, rfl⟩, p3⟩
              have m5 := m4.ex p1
              have r1d := r1.mono (.of m (e14.trans p1))
              have hlz : ((ps.zip (items (bd bs))).mapIdx fun i p => D.tup [.int i, .tup [p.1, p.2]]).length = ps.length := by
                rw [List.length_mapIdx, List.length_zip]
                show min ps.length (bs.map D.int).length = _
                rw [List.length_map, ← hl, Nat.min_self]
              have hall : allL w ps bs 0 = true := allL_true fun j p b h1 h2 => by
                rw [Nat.zero_add]
                exact p3 j p b (by rw [hlz]; exact (List.getElem?_eq_some_iff.mp h1).1) h1 h2
              have w0 : EvD K S (tOp (rIx K) (tVar 0) (tC (.int 0))) [some v, some bv, a, b, c, e] H' (.str w) := ev_op m5 (ev_var m5 rfl r1d) ev_int (r_ixQ (j := 0) hq rfl)
              have hne' : EvD K S (tOp (rNeD K) (tOp (rIx K) (tVar 0) (tC (.int 0))) (tC (.str "copy"))) [some v, some bv, a, b, c, e] H' (.bl (!decide (w = "copy"))) := by
                have := ev_op m5 w0 (ev_str (i := "copy")) (r_neD (d1 := .str w) hwok (by decide +kernel) (Nat.zero_le _) (Nat.zero_le _))
                rwa [eqD_str] at this
              refine ts_ret (K := K) (S := S) (ev_or (tb := tOp (rNeD K) (tOp (rIx K) (tVar 0) (tC (.int 1))) (tOp (rIx K) (tVar 0) (tC (.int 2)))) (b := !eqD (ps.getD 0 .non) (ps.getD 1 .non)) hne' fun hw => ?_) fun u H6 e6 r6 => k u H6 ((e14.trans p1).trans e6) ?_
              · have hw' : w = "copy" := by simpa using hw
                subst hw'
                have hb44 : bs = [4, 4] := by
                  have : boundsOf "copy" = some [4, 4] := by decide +kernel
                  rw [this] at hbo; cases hbo; rfl
                subst hb44
                have h2 : ps.length = 2 := hl
                obtain ⟨x, y, rfl⟩ : ∃ x y, ps = [x, y] := by
                  match ps, h2 with
                  | [x, y], _ => exact ⟨x, y, rfl⟩
                have g0 := p3 0 x 4 (by rw [hlz]; show 0 < 2; decide) rfl rfl
                have g1 := p3 1 y 4 (by rw [hlz]; show 1 < 2; decide) rfl rfl
                rw [partL_no (.inr (by decide))] at g0 g1
                obtain ⟨i, rfl⟩ : ∃ i, x = .int i := by cases x <;> first | exact ⟨_, rfl⟩ | cases g0
                obtain ⟨j, rfl⟩ : ∃ j, y = .int j := by cases y <;> first | exact ⟨_, rfl⟩ | cases g1
                exact ev_op m5 (ev_op m5 (ev_var m5 rfl r1d) ev_int (r_ixQ (j := 1) hq rfl)) (ev_op m5 (ev_var m5 rfl r1d) ev_int (r_ixQ (j := 2) hq rfl)) (r_neD rfl rfl (Nat.zero_le _) (Nat.zero_le _))
              · rw [hstE, decide_eq_true hl, hall]
                exact r6
          · rw [decide_eq_false hl, if_pos (by decide)]
            refine retF H3 _ ((e1.trans e2).trans e3) ?_
            rw [hstE, decide_eq_false hl]; rfl
      · have hns : e.isStr = false := by cases e <;> first | rfl | exact absurd ⟨_, rfl⟩ hs
        rw [hns, if_pos (by decide)]
        refine retF H1 _ e1 ?_
        rw [hst]
        cases e <;> first | rfl | exact absurd ⟨_, rfl⟩ hs
  · have hT : d.isLT = false := by cases d <;> first | rfl | exact absurd ⟨_, .inl rfl⟩ hq | exact absurd ⟨_, .inr rfl⟩ hq
    refine ts_ifseq (b := true) ((eb_or (b := true) (eb_not hlisted) fun z => by rw [hT] at z; cases z).is (by rw [hT]; rfl)) fun H1 e1 => ?_
    rw [if_pos rfl]
    refine retF H1 _ e1 ?_
    cases d <;> first | rfl | exact absurd ⟨_, .inl rfl⟩ hq | exact absurd ⟨_, .inr rfl⟩ hq
end
end Nv
set_option Elab.async false
set_option linter.all false
set_option maxRecDepth 100000
set_option maxHeartbeats 4000000
/-! Promises of the law's own defs: line_wrong. -/
namespace Nv
open PySem PySem.Spec PyProof.Rows L2 StX NvZ
def badW (ws : List Str) (b : Int) (i : Nat) : Bool :=
  (!(decide (ws.getD 0 "" = "write") && (decide (i = 2) && decide (ws.getD (i + 1) "" = "-"))) && !decide (ws.getD (i + 1) "" ∈ figsTo b.toNat)) || (decide (ws.getD 0 "" = "copy") && (decide (i = 1) && decide (ws.getD 1 "" = ws.getD 2 "")))
def loopW (ws : List Str) (total : Nat) : List Int → Nat → Option Nat
  | [], _ => if total + 1 < ws.length then some (total + 1) else none
  | b :: rest, i => if ws.length ≤ i + 1 then some (i + 1) else if badW ws b i = true then some (i + 1) else loopW ws total rest (i + 1)
def lineW (ws : List Str) : Option Nat := match boundsOf (ws.getD 0 "") with
  | none => some 0
  | some bs => loopW ws bs.length bs 0
def wrongD : Option Nat → D
  | none => .non
  | some k => .int k
section
variable {K : PySem.W.Frag} {A : Ads} {S : Addr → Prop} {σ : L2.St} {H H' : Hp} {E : XK}
def spWrong (K : PySem.W.Frag) : Sp := fun vs H Q _ => ∃ S v ws, vs = [v] ∧ Mem S H ∧ Rp K S H v (.lst (List.map D.str ws)) ∧ ws ≠ [] ∧ ws.length ≤ 1000 ∧ (∀ w ∈ ws, PyData.strOk w = true) ∧ ∀ u H', Ex H H' → Rp K S H' u (wrongD (lineW ws)) → Q u H'
theorem ev_wrong {te : TE} {ws : List Str} (m : Mem S H) (h : EvD K S te σ H (.lst (ws.map D.str))) (h0 : ws ≠ []) (hl : ws.length ≤ 1000) (ho : ∀ w ∈ ws, PyData.strOk w = true) : EvD K S (tCall (spWrong K) [] E0 (tCons te tNil)) σ H (wrongD (lineW ws)) := fun H1 e Q q =>
  h H1 e _ fun v H2 e2 r2 => ⟨S, v, ws, rfl, m.ex (e.trans e2), r2, h0, hl, ho, fun u H3 e3 r3 => q u H3 (e2.trans e3) r3⟩
theorem get_strs {ws : List Str} {j : Nat} (h : j < ws.length) : (ws.map D.str)[j]? = some (.str (ws.getD j "")) := by
  rw [List.getElem?_map, List.getElem?_eq_getElem h]
  simp [List.getD, h]
theorem getD_in {ws : List Str} {j : Nat} (h : j < ws.length) : ws.getD j "" ∈ ws := by
  simp only [List.getD, List.getElem?_eq_getElem h, Option.getD_some]
  exact List.getElem_mem h
theorem bounds_le {w : Str} {bs : List Int} (h : boundsOf w = some bs) : bs.length ≤ 3 ∧ ∀ b ∈ bs, 2 ≤ b ∧ b ≤ 4 := by
  rcases word_cases w with ⟨_, _, h'⟩ | ⟨_, _, h'⟩ | ⟨_, _, h'⟩ | ⟨_, _, h'⟩ | ⟨_, _, h'⟩ | ⟨_, _, h'⟩ | ⟨_, h', _⟩ <;> (rw [h] at h'; cases h') <;> refine ⟨by decide, ?_⟩ <;> decide
theorem pr_wrong (vs : List V) (H : Hp) (Q : VK) (E : XK) (h : spWrong K vs H Q E) : t_law_line_wrong K A E (spLFigure K) { nx := fun _ H' => Q .non H', rt := Q } (start ["words", "bounds", "at", "most", "is_none"] vs) H := by
  obtain ⟨S, v, ws, rfl, m, r, h0, hl, hok, k⟩ := h
  show t_law_line_wrong K A E (spLFigure K) { nx := fun _ H' => Q .non H', rt := Q } [some v, none, none, none, none] H
  have hpos : 0 < ws.length := by
    cases ws with
    | nil => exact absurd rfl h0
    | cons => simp
  have w0 : EvD K S (tOp (rIx K) (tVar 0) (tC (.int 0))) [some v, none, none, none, none] H (.str (ws.getD 0 "")) := ev_op m (ev_var m rfl r) ev_int (r_ixL (j := 0) (get_strs hpos))
  refine ts_set (K := K) (S := S) (ev_bounds m w0) fun bv H1 e1 rb => ?_
  have m1 := m.ex e1
  show tSeq _ _ _ [some v, some bv, none, none, none] H1
  have isn : EvB (tTest (tOp rIsN (tVar 1) (tC .non))) [some v, some bv, none, none, none] H1 (boundsD (ws.getD 0 "")).isNon := eb_T (ev_op m1 (ev_var (i := 1) m1 rfl rb) ev_non r_isN)
  cases hbo : boundsOf (ws.getD 0 "") with
  | none =>
    have hbd : boundsD (ws.getD 0 "") = .non := by unfold boundsD; rw [hbo]
    rw [hbd] at isn
    refine ts_ifseq (b := true) isn fun H2 e2 => ?_
    rw [if_pos rfl]
    refine ts_ret (K := K) (S := S) ev_int fun u H3 e3 r3 => k u H3 ((e1.trans e2).trans e3) ?_
    have : lineW ws = some 0 := by unfold lineW; rw [hbo]
    rw [this]; exact r3
  | some bs =>
    have hbd : boundsD (ws.getD 0 "") = bd bs := by unfold boundsD; rw [hbo]
    obtain ⟨hbl, hbr⟩ := bounds_le hbo
    rw [hbd] at isn rb
    refine ts_ifseq (b := false) isn fun H2 e2 => ?_
    rw [if_neg (by decide)]
    have m2 := m1.ex e2
    have rb2 := rb.mono (.of m1 e2)
    have hi := ei_enum m2 (ev_a1 (ev_var (σ := [some v, some bv, none, none, none]) (i := 1) m2 rfl rb2)) rfl
    refine tn_seq (ts_forseq (E := { nx := fun _ H' => Q .non H', rt := Q }) hi fun H3 e3 => ?_)
    have m3 := m2.ex e3
    have e13 : Ex H H3 := (e1.trans e2).trans e3
    have hline : lineW ws = loopW ws bs.length bs 0 := by unfold lineW; rw [hbo]
    refine ⟨fun i σ' H' => Ex H3 H' ∧ (∃ a b c, σ' = [some v, some bv, a, b, c]) ∧ lineW ws = loopW ws bs.length (bs.drop i) i, ⟨Evl.Ex.refl _, ⟨_, _, _, rfl⟩, hline⟩, fun i σ' H' p => ⟨S, m3.ex p.1, Up.ex m3 p.1⟩, ?_, ?_⟩
    · rintro i dd σ' H' hd ⟨p1, ⟨a, b, c, rfl⟩, p3⟩ x H'' ex hx
      obtain ⟨bD, hzb, rfl⟩ := mapIdx_get hd
      have hzb' : (bs.map D.int)[i]? = some bD := hzb
      rw [List.getElem?_map, Option.map_eq_some_iff] at hzb'
      obtain ⟨bb, hbb, rfl⟩ := hzb'
      have hil : i < bs.length := (List.getElem?_eq_some_iff.mp hbb).1
      obtain ⟨hb2, hb4⟩ := hbr bb (List.mem_of_getElem? hbb)
      have hdrop : bs.drop i = bb :: bs.drop (i + 1) := by
        rw [List.drop_eq_getElem_cons hil]
        have : bs[i] = bb := by
          rw [List.getElem?_eq_getElem hil] at hbb
          injection hbb
        rw [this]
      rw [hdrop] at p3
      have m4 := m3.ex p1
      have m5 := m4.ex ex
      have rx := hx S m4 (Up.ex m3 p1)
      have r5 := r.mono (.of m ((e13.trans p1).trans ex))
      refine g2_of rx fun vi vb ri rb' => ?_
      show tSeq (tIfS _ _ _) _ _ [some v, some bv, some vi, some vb, c] H''
      have hat1 : ∀ {σ : L2.St} {HH : Hp}, Mem S HH → σ[2]? = some (some vi) → Rp K S HH vi (.int i) → EvD K S (tOp rAddI (tVar 2) (tC (.int 1))) σ HH (.int ((i + 1 : Nat) : Int)) := fun mm hσ rr => (ev_op mm (ev_var (i := 2) mm hσ rr) (ev_int (i := 1)) r_add).is (by rfl)
      have hge : EvB (tTest (tOp rGeI (tOp rAddI (tVar 2) (tC (.int 1))) (tCB (rLenV K) (tCons (tVar 0) tNil)))) [some v, some bv, some vi, some vb, c] H'' (decide (ws.length ≤ i + 1)) := by
        refine (eb_T (ev_op m5 (hat1 m5 rfl ri) (ev_cb (ea_cons m5 (ev_var (i := 0) m5 rfl r5) ea_nil) (ra_len rfl)) r_ge)).is ?_
        show decide ((((ws.map D.str).length : Nat) : Int) ≤ ((i + 1 : Nat) : Int)) = _
        rw [List.length_map, decide_eq_decide]; omega
      refine ts_ifseq hge fun H5 e5 => ?_
      have m6 := m5.ex e5
      have e15 : Ex H H5 := ((e13.trans p1).trans ex).trans e5
      by_cases hlen : ws.length ≤ i + 1
      · rw [decide_eq_true hlen, if_pos rfl]
        refine ts_ret (hat1 m6 rfl (ri.mono (.of m5 e5))) fun u H6 e6 r6 => k u H6 (e15.trans e6) ?_
        have : lineW ws = some (i + 1) := by rw [p3]; exact if_pos hlen
        rw [this]; exact r6
      · rw [decide_eq_false hlen, if_neg (by decide)]
        have hi1 : i + 1 < ws.length := by omega
        have r6 := r5.mono (.of m5 e5)
        have ri6 := ri.mono (.of m5 e5)
        have rb6 := rb'.mono (.of m5 e5)
        have q0 : EvD K S (tOp (rIx K) (tVar 0) (tC (.int 0))) [some v, some bv, some vi, some vb, c] H5 (.str (ws.getD 0 "")) := ev_op m6 (ev_var m6 rfl r6) ev_int (r_ixL (j := 0) (get_strs hpos))
        have q1 : EvD K S (tOp (rIx K) (tVar 0) (tOp rAddI (tVar 2) (tC (.int 1)))) [some v, some bv, some vi, some vb, c] H5 (.str (ws.getD (i + 1) "")) := ev_op m6 (ev_var m6 rfl r6) (hat1 m6 rfl ri6) (r_ixL (j := i + 1) (get_strs hi1))
        have ok0 := hok _ (getD_in hpos)
        have ok1 := hok _ (getD_in hi1)
        have hnone : EvD K S (tAndV (tOp (rEqD K) (tOp (rIx K) (tVar 0) (tC (.int 0))) (tC (.str "write"))) (tAndV (tOp (rEqD K) (tVar 2) (tC (.int 2))) (tOp (rEqD K) (tOp (rIx K) (tVar 0) (tOp rAddI (tVar 2) (tC (.int 1)))) (tC (.str "-"))))) [some v, some bv, some vi, some vb, c] H5
            (.bl (decide (ws.getD 0 "" = "write") && (decide (i = 2) && decide (ws.getD (i + 1) "" = "-")))) := by
          have z0 := ev_op m6 q0 (ev_str (i := "write")) (r_eqD (d1 := .str (ws.getD 0 "")) ok0 (by decide +kernel) (Nat.zero_le _) (Nat.zero_le _))
          rw [eqD_str] at z0
          have z1 := ev_op m6 (ev_var (σ := [some v, some bv, some vi, some vb, c]) (i := 2) m6 rfl ri6) (ev_int (i := 2)) (r_eqD rfl rfl (Nat.zero_le _) (Nat.zero_le _))
          rw [eqD_int, show decide ((i : Int) = 2) = decide (i = 2) by rw [decide_eq_decide]; omega] at z1
          have z2 := ev_op m6 q1 (ev_str (i := "-")) (r_eqD (d1 := .str (ws.getD (i + 1) "")) ok1 (by decide +kernel) (Nat.zero_le _) (Nat.zero_le _))
          rw [eqD_str] at z2
          exact ev_and z0 fun _ => ev_and z1 fun _ => z2
        refine tn_seq (ts_set (K := K) (S := S) hnone fun v5 H6 e6 r5' => ?_)
        have m7 := m6.ex e6
        generalize hB : (decide (ws.getD 0 "" = "write") && (decide (i = 2) && decide (ws.getD (i + 1) "" = "-"))) = B5 at r5'
        cases r5'
        show tIfS _ _ _ _ [some v, some bv, some vi, some vb, some (.bl B5)] H6
        have r7 := r6.mono (.of m6 e6)
        have ri7 := ri6.mono (.of m6 e6)
        have rb7 := rb6.mono (.of m6 e6)
        have s0 : EvD K S (tOp (rIx K) (tVar 0) (tC (.int 0))) [some v, some bv, some vi, some vb, some (.bl B5)] H6 (.str (ws.getD 0 "")) := ev_op m7 (ev_var m7 rfl r7) ev_int (r_ixL (j := 0) (get_strs hpos))
        have s1 : EvD K S (tOp (rIx K) (tVar 0) (tOp rAddI (tVar 2) (tC (.int 1)))) [some v, some bv, some vi, some vb, some (.bl B5)] H6 (.str (ws.getD (i + 1) "")) := ev_op m7 (ev_var m7 rfl r7) (hat1 m7 rfl ri7) (r_ixL (j := i + 1) (get_strs hi1))
        have t1 : EvB (tB (tVar 4)) [some v, some bv, some vi, some vb, some (.bl B5)] H6 B5 := eb_B (K := K) (ev_var (i := 4) m7 rfl (.bl B5))
        have t2 : EvB (tB (tCall (spLFigure K) [] E0 (tCons (tOp (rIx K) (tVar 0) (tOp rAddI (tVar 2) (tC (.int 1)))) (tCons (tC (.int 0)) (tCons (tOp rSubI (tVar 3) (tC (.int 1))) tNil))))) [some v, some bv, some vi, some vb, some (.bl B5)] H6 (decide (ws.getD (i + 1) "" ∈ figsTo bb.toNat)) := by
          refine (eb_B (ev_pure m7 (ea_cons m7 s1 (ea_cons m7 ev_int (ev_a1 (ev_op m7 (ev_var (i := 3) m7 rfl rb7) ev_int r_sub)))) rfl ⟨_, _, _, rfl, ⟨_, rfl⟩, rfl, bb.toNat, by rw [Int.toNat_of_nonneg (by omega)], by omega, by omega⟩)).is ?_
          show decide (ws.getD (i + 1) "" ∈ figsTo (bb - 1 + 1).toNat) = _
          rw [show bb - 1 + 1 = bb by omega]
        have t3 : EvB (tTest (tOp (rEqD K) (tOp (rIx K) (tVar 0) (tC (.int 0))) (tC (.str "copy")))) [some v, some bv, some vi, some vb, some (.bl B5)] H6 (decide (ws.getD 0 "" = "copy")) := by
          have := eb_T (ev_op m7 s0 (ev_str (i := "copy")) (r_eqD (d1 := .str (ws.getD 0 "")) ok0 (by decide +kernel) (Nat.zero_le _) (Nat.zero_le _)))
          rwa [eqD_str] at this
        have t4 : EvB (tTest (tOp (rEqD K) (tVar 2) (tC (.int 1)))) [some v, some bv, some vi, some vb, some (.bl B5)] H6 (decide (i = 1)) := by
          have := eb_T (ev_op m7 (ev_var (σ := [some v, some bv, some vi, some vb, some (.bl B5)]) (i := 2) m7 rfl ri7) (ev_int (i := 1)) (r_eqD rfl rfl (Nat.zero_le _) (Nat.zero_le _)))
          rw [eqD_int] at this
          exact this.is (by rw [decide_eq_decide]; omega)
        have t5 : i = 1 → EvB (tTest (tOp (rEqD K) (tOp (rIx K) (tVar 0) (tC (.int 1))) (tOp (rIx K) (tVar 0) (tC (.int 2))))) [some v, some bv, some vi, some vb, some (.bl B5)] H6 (decide (ws.getD 1 "" = ws.getD 2 "")) := fun hi => by
          subst hi
          have := eb_T (ev_op m7 (ev_op m7 (ev_var (σ := [some v, some bv, some vi, some vb, some (.bl B5)]) (i := 0) m7 rfl r7) (ev_int (i := 1)) (r_ixL (j := 1) (get_strs (by omega)))) (ev_op m7 (ev_var (i := 0) m7 rfl r7) (ev_int (i := 2)) (r_ixL (j := 2) (get_strs hi1))) (r_eqD (hok _ (getD_in (by omega))) (hok _ (getD_in hi1)) (Nat.zero_le _) (Nat.zero_le _)))
          rwa [eqD_str] at this
        have hbadE : badW ws bb i = ((!B5 && !decide (ws.getD (i + 1) "" ∈ figsTo bb.toNat)) || (decide (ws.getD 0 "" = "copy") && (decide (i = 1) && decide (ws.getD 1 "" = ws.getD 2 "")))) := by
          unfold badW; rw [hB]
        refine ts_if (b := badW ws bb i) ((eb_or (eb_and (eb_not t1) fun _ => eb_not t2) fun _ => eb_and t3 fun _ => eb_and t4 fun g => t5 (of_decide_eq_true g)).is hbadE.symm) fun H7 e7 => ?_
        have m8 := m7.ex e7
        have e17 : Ex H H7 := (e15.trans e6).trans e7
        by_cases hbad : badW ws bb i = true
        · rw [if_pos hbad]
          refine ts_ret (hat1 m8 rfl (ri7.mono (.of m7 e7))) fun u H8 e8 r8 => k u H8 (e17.trans e8) ?_
          have : lineW ws = some (i + 1) := by rw [p3]; show (if _ then _ else _) = _; rw [if_neg hlen, if_pos hbad]
          rw [this]; exact r8
        · rw [if_neg hbad]
          refine ⟨(((p1.trans ex).trans e5).trans e6).trans e7, ⟨_, _, _, rfl⟩, ?_⟩
          rw [p3]
          show (if _ then _ else _) = _
          rw [if_neg hlen, if_neg hbad]
    · rintro σ' H' ⟨p1, ⟨a, b, c, rfl⟩, p3⟩
      have hlz : ((items (bd bs)).mapIdx fun i d => D.tup [.int i, d]).length = bs.length := by
        rw [List.length_mapIdx]; show (bs.map D.int).length = _; rw [List.length_map]
      rw [hlz, List.drop_length] at p3
      have m4 := m3.ex p1
      have r4 := r.mono (.of m (e13.trans p1))
      have rb4 := rb2.mono (.of m2 (e3.trans p1))
      have hgt : EvB (tTest (tOp rGtI (tCB (rLenV K) (tCons (tVar 0) tNil)) (tOp rAddI (tCB (rLenV K) (tCons (tVar 1) tNil)) (tC (.int 1))))) [some v, some bv, a, b, c] H' (decide (bs.length + 1 < ws.length)) := by
        refine (eb_T (ev_op m4 (ev_cb (ea_cons m4 (ev_var (i := 0) m4 rfl r4) ea_nil) (ra_len rfl)) (ev_op m4 (ev_cb (ea_cons m4 (ev_var (i := 1) m4 rfl rb4) ea_nil) (ra_len rfl)) (ev_int (i := 1)) r_add) r_gt)).is ?_
        show decide ((((bs.map D.int).length : Nat) : Int) + 1 < (((ws.map D.str).length : Nat) : Int)) = _
        rw [List.length_map, List.length_map, decide_eq_decide]; omega
      have hadd : EvD K S (tOp rAddI (tCB (rLenV K) (tCons (tVar 1) tNil)) (tC (.int 1))) [some v, some bv, a, b, c] H' (.int ((bs.length + 1 : Nat) : Int)) := by
        refine (ev_op m4 (ev_cb (ea_cons m4 (ev_var (i := 1) m4 rfl rb4) ea_nil) (ra_len rfl)) (ev_int (i := 1)) r_add).is ?_
        show D.int ((((bs.map D.int).length : Nat) : Int) + 1) = _
        rw [List.length_map]; rfl
      refine ts_ret (K := K) (S := S) (d := wrongD (lineW ws)) (ev_if hgt (fun hc => ?_) fun hc => ?_) fun u H6 e6 r6 => k u H6 ((e13.trans p1).trans e6) r6
      · have : lineW ws = some (bs.length + 1) := by rw [p3]; exact if_pos (of_decide_eq_true hc)
        rw [this]; exact hadd
      · have : lineW ws = none := by rw [p3]; exact if_neg (of_decide_eq_false hc)
        rw [this]; exact ev_non
end
end Nv
set_option Elab.async false
set_option linter.all false
set_option maxRecDepth 100000
set_option maxHeartbeats 4000000
/-! Promises of the law's own defs: any_step. -/
namespace Nv
open PySem PySem.Spec PyProof.Rows L2 StX NvZ
def sixNames : List Str := ["new", "read", "write", "copy", "drop", "tick"]
theorem step_new {a k : Int} (h : 0 ≤ a ∧ a < 4) (h2 : 0 ≤ k ∧ k < 3) : stepL [.str "new", .int a, .int k] = true := by
  rw [← form_eq]
  show (match boundsOf "new" with | some bs => _ | none => false) = true
  rw [show boundsOf "new" = some [4, 3] by decide +kernel]
  show (decide (2 = 2) && (partL "new" 0 (.int a) 4 && (partL "new" 1 (.int k) 3 && true)) && (!decide (("new" : Str) = "copy") || _)) = true
  rw [partL_no (.inr (by decide)), partL_no (.inr (by decide)), decide_eq_false (show ¬ ("new" : Str) = "copy" by decide +kernel)]
  show (true && ((decide (0 ≤ a) && decide (a < 4)) && ((decide (0 ≤ k) && decide (k < 3)) && true)) && _) = true
  rw [decide_eq_true h.1, decide_eq_true h.2, decide_eq_true h2.1, decide_eq_true h2.2]; rfl
theorem step_read {a b k : Int} (h : 0 ≤ a ∧ a < 4) (h1 : 0 ≤ b ∧ b < 4) (h2 : 0 ≤ k ∧ k < 2) : stepL [.str "read", .int a, .int b, .int k] = true := by
  rw [← form_eq]
  show (match boundsOf "read" with | some bs => _ | none => false) = true
  rw [show boundsOf "read" = some [4, 4, 2] by decide +kernel]
  show (decide (3 = 3) && (partL "read" 0 (.int a) 4 && (partL "read" 1 (.int b) 4 && (partL "read" 2 (.int k) 2 && true))) && (!decide (("read" : Str) = "copy") || _)) = true
  rw [partL_no (.inr (by decide)), partL_no (.inr (by decide)), partL_no (.inl (by decide +kernel)), decide_eq_false (show ¬ ("read" : Str) = "copy" by decide +kernel)]
  show (true && ((decide (0 ≤ a) && decide (a < 4)) && ((decide (0 ≤ b) && decide (b < 4)) && ((decide (0 ≤ k) && decide (k < 2)) && true))) && _) = true
  rw [decide_eq_true h.1, decide_eq_true h.2, decide_eq_true h1.1, decide_eq_true h1.2, decide_eq_true h2.1, decide_eq_true h2.2]; rfl
theorem step_write {a k : Int} {d : D} (h : 0 ≤ a ∧ a < 4) (h1 : 0 ≤ k ∧ k < 2) (h2 : d = .non ∨ ∃ b : Int, d = .int b ∧ 0 ≤ b ∧ b < 4) : stepL [.str "write", .int a, .int k, d] = true := by
  rw [← form_eq]
  show (match boundsOf "write" with | some bs => _ | none => false) = true
  rw [show boundsOf "write" = some [4, 2, 4] by decide +kernel]
  show (decide (3 = 3) && (partL "write" 0 (.int a) 4 && (partL "write" 1 (.int k) 2 && (partL "write" 2 d 4 && true))) && (!decide (("write" : Str) = "copy") || _)) = true
  rw [partL_no (.inr (by decide)), partL_no (.inr (by decide)), partL_v, decide_eq_false (show ¬ ("write" : Str) = "copy" by decide +kernel)]
  show (true && ((decide (0 ≤ a) && decide (a < 4)) && ((decide (0 ≤ k) && decide (k < 2)) && ((d.isNon || withinLt d 4) && true))) && _) = true
  rw [decide_eq_true h.1, decide_eq_true h.2, decide_eq_true h1.1, decide_eq_true h1.2]
  rcases h2 with rfl | ⟨b, rfl, b0, b1⟩
  · rfl
  · show (true && (true && (true && ((false || (decide (0 ≤ b) && decide (b < 4))) && true))) && _) = true
    rw [decide_eq_true b0, decide_eq_true b1]; rfl
theorem step_copy {a b : Int} (h : 0 ≤ a ∧ a < 4) (h1 : 0 ≤ b ∧ b < 4) (hn : a ≠ b) : stepL [.str "copy", .int a, .int b] = true := by
  rw [← form_eq]
  show (match boundsOf "copy" with | some bs => _ | none => false) = true
  rw [show boundsOf "copy" = some [4, 4] by decide +kernel]
  show (decide (2 = 2) && (partL "copy" 0 (.int a) 4 && (partL "copy" 1 (.int b) 4 && true)) && (!decide (("copy" : Str) = "copy") || !eqD (.int a) (.int b))) = true
  rw [partL_no (.inr (by decide)), partL_no (.inr (by decide)), eqD_int, decide_eq_false hn]
  show (true && ((decide (0 ≤ a) && decide (a < 4)) && ((decide (0 ≤ b) && decide (b < 4)) && true)) && (_ || true)) = true
  rw [decide_eq_true h.1, decide_eq_true h.2, decide_eq_true h1.1, decide_eq_true h1.2, Bool.or_true]; rfl
theorem step_drop {a : Int} (h : 0 ≤ a ∧ a < 4) : stepL [.str "drop", .int a] = true := by
  rw [← form_eq]
  show (match boundsOf "drop" with | some bs => _ | none => false) = true
  rw [show boundsOf "drop" = some [4] by decide +kernel]
  show (decide (1 = 1) && (partL "drop" 0 (.int a) 4 && true) && (!decide (("drop" : Str) = "copy") || _)) = true
  rw [partL_no (.inr (by decide)), decide_eq_false (show ¬ ("drop" : Str) = "copy" by decide +kernel)]
  show (true && ((decide (0 ≤ a) && decide (a < 4)) && true) && _) = true
  rw [decide_eq_true h.1, decide_eq_true h.2]; rfl
theorem step_tick : stepL [.str "tick"] = true := by decide +kernel
section
variable {K : PySem.W.Frag} {A : Ads} {S : Addr → Prop} {σ : L2.St} {H H' : Hp} {E : XK} {p : Addr} {n : Nat}
theorem PenAt.le {m : Nat} (h : PenAt K S H p n) (hl : n ≤ m) : PenAt K S H p m := by
  obtain ⟨s, ra, ns, a, r, g1, g2, g3, g4, g5⟩ := h
  exact ⟨s, ra, ns, a, r, g1, g2, g3, by omega, g5⟩
theorem cx_pick {i : Nat} {te : TE} {ds : List D} {Q : VK} (m : Mem S H) (hσ : σ[i]? = some (some (.ref p))) (hp : PenAt K S H p n) (hn : n ≤ 1000000) (h : EvD K S te σ H (.lst ds)) (h1 : 1 ≤ ds.length) (h2 : ds.length ≤ 1000)
    (q : ∀ d v H', d ∈ ds → Ex1 p H H' → Mem S H' → PenAt K S H' p (n + 1) → Rp K S H' v d → Q v H') : tCall (spPick K) [] E0 (tCons (tVar i) (tCons te tNil)) σ H Q := ⟨_, hσ, h H (Evl.Ex.refl _) _ fun v H1 e1 r1 =>
  ⟨S, p, n, v, ds, rfl, m.ex e1, hp.ex m e1, hn, r1, h1, h2, fun d u H' hd e mm pp rr => q d u H' hd ((Ex.ex1 e1).trans e) mm pp rr⟩⟩
def spAny (K : PySem.W.Frag) : Sp := fun vs H Q _ => ∃ S p n, vs = [.ref p] ∧ Mem S H ∧ PenAt K S H p n ∧ n ≤ 999990 ∧ ∀ ds v H', stepL ds = true → Ex1 p H H' → Mem S H' → PenAt K S H' p (n + 5) → Rp K S H' v (.tup ds) → Q v H'
theorem pr_any (vs : List V) (H : Hp) (Q : VK) (E : XK) (h : spAny K vs H Q E) : t_law_any_step K A E (spDraw K) (spPick K) { nx := fun _ H' => Q .non H', rt := Q } (start ["pen", "word", "one", "other"] vs) H := by
  obtain ⟨S, p, n, rfl, m, hp, hn, k⟩ := h
  show t_law_any_step K A E (spDraw K) (spPick K) { nx := fun _ H' => Q .non H', rt := Q } [some (.ref p), none, none, none] H
  have names : EvD K S (tLst (tCons (tC (.str "new")) (tCons (tC (.str "read")) (tCons (tC (.str "write")) (tCons (tC (.str "copy")) (tCons (tC (.str "drop")) (tCons (tC (.str "tick")) tNil))))))) [some (.ref p), none, none, none] H (.lst (sixNames.map D.str)) :=
    ev_lst m (ea_cons m ev_str (ea_cons m ev_str (ea_cons m ev_str (ea_cons m ev_str (ea_cons m ev_str (ea_cons m ev_str ea_nil)))))) (by decide)
  refine cx_pick (i := 0) m rfl hp (by omega) names (by decide) (by decide) fun d v H1 hd e1 m1 p1 r1 => ?_
  obtain ⟨w, hw, rfl⟩ := List.mem_map.mp hd
  cases r1
  refine cx_draw (i := 0) m1 rfl p1 (by omega) (ev_int (i := 4)) (by decide) (by decide) fun a H2 a0 a1 e2 m2 p2 => ?_
  refine cx_draw (i := 0) m2 rfl p2 (by omega) (ev_int (i := 4)) (by decide) (by decide) fun b H3 b0 b1 e3 m3 p3 => ?_
  refine ⟨_, _, _, rfl, ?_⟩
  show tSeq _ _ _ [some (.ref p), some (.str w), some (.int a), some (.int b)] H3
  have e13 : Ex1 p H H3 := (e1.trans e2).trans e3
  have wok : PyData.strOk w = true := by
    have : ∀ x ∈ sixNames, PyData.strOk x = true := by decide +kernel
    exact this w hw
  have teq : ∀ {HH : Hp} (x : Str), Mem S HH → PyData.strOk x = true → EvB (tTest (tOp (rEqD K) (tVar 1) (tC (.str x)))) [some (.ref p), some (.str w), some (.int a), some (.int b)] HH (decide (w = x)) := fun x mm ho => by
    have := eb_T (ev_op mm (ev_var (K := K) (σ := [some (.ref p), some (.str w), some (.int a), some (.int b)]) (i := 1) mm rfl (.str w)) (ev_str (i := x)) (r_eqD (d1 := .str w) (d2 := .str x) wok ho (Nat.zero_le _) (Nat.zero_le _)))
    rwa [eqD_str] at this
  -- the end: a new tuple
  have fin : ∀ (us : List V) (ds : List D) (H4 : Hp), us.length ≤ 10 → stepL ds = true → Ex1 p H H4 → Mem S H4 → PenAt K S H4 p (n + 5) → RpA K S H4 us ds → us.length ≤ sizeLine ∧ ∀ t, H4 t = none → Q (.ref t) (upd H4 t (.tup us)) := fun us ds H4 hl hs e4 m4 p4 r4 =>
    ⟨by rw [sizeLine_eq]; omega, fun t ht => k ds _ _ hs (e4.trans (Ex.ex1 (Evl.Ex.new ht))) (m4.ex (Evl.Ex.new ht)) (p4.ex m4 (Evl.Ex.new ht)) (.newT m4 r4 ht)⟩
  refine ts_ifseq (teq "new" m3 (by decide +kernel)) fun H4 e4 => ?_
  have m4 := m3.ex e4
  have p4 := p3.ex m3 e4
  have e14 : Ex1 p H H4 := e13.trans (Ex.ex1 e4)
  by_cases h1 : w = "new"
  · rw [decide_eq_true h1, if_pos rfl]
    refine ⟨_, rfl, _, rfl, cx_draw (i := 0) m4 rfl p4 (by omega) (ev_int (i := 3)) (by decide) (by decide) fun c H5 c0 c1 e5 m5 p5 => ?_⟩
    subst h1
    exact fin _ _ H5 (by show 3 ≤ 10; decide) (step_new ⟨a0, a1⟩ ⟨c0, c1⟩) (e14.trans e5) m5 (p5.le (by omega)) (.cons (.str _) (.cons (.int a) (.cons (.int c) .nil)))
  · rw [decide_eq_false h1, if_neg (by decide)]
    refine tn_seq (ts_ifseq (teq "read" m4 (by decide +kernel)) fun H5 e5 => ?_)
    have m5 := m4.ex e5
    have p5 := p4.ex m4 e5
    have e15 : Ex1 p H H5 := e14.trans (Ex.ex1 e5)
    by_cases h2 : w = "read"
    · rw [decide_eq_true h2, if_pos rfl]
      refine ⟨_, rfl, _, rfl, _, rfl, cx_draw (i := 0) m5 rfl p5 (by omega) (ev_int (i := 2)) (by decide) (by decide) fun c H6 c0 c1 e6 m6 p6 => ?_⟩
      subst h2
      exact fin _ _ H6 (by show 4 ≤ 10; decide) (step_read ⟨a0, a1⟩ ⟨b0, b1⟩ ⟨c0, c1⟩) (e15.trans e6) m6 (p6.le (by omega)) (.cons (.str _) (.cons (.int a) (.cons (.int b) (.cons (.int c) .nil))))
    · rw [decide_eq_false h2, if_neg (by decide)]
      refine tn_seq (ts_ifseq (teq "write" m5 (by decide +kernel)) fun H6 e6 => ?_)
      have m6 := m5.ex e6
      have p6 := p5.ex m5 e6
      have e16 : Ex1 p H H6 := e15.trans (Ex.ex1 e6)
      by_cases h3 : w = "write"
      · rw [decide_eq_true h3, if_pos rfl]
        refine ⟨_, rfl, _, rfl, cx_draw (i := 0) m6 rfl p6 (by omega) (ev_int (i := 2)) (by decide) (by decide) fun c H7 c0 c1 e7 m7 p7 => ?_⟩
        refine cx_pick (i := 0) (ds := [.non, .int b, .int b]) m7 rfl p7 (by omega) (ev_lst m7 (ea_cons m7 ev_non (ea_cons m7 (ev_var (i := 3) m7 rfl (.int b)) (ea_cons m7 (ev_var (i := 3) m7 rfl (.int b)) ea_nil))) (by show 3 ≤ _; decide)) (by show 1 ≤ 3; decide) (by show 3 ≤ 1000; decide) fun d v H8 hd9 e8 m8 p8 r8 => ?_
        subst h3
        have hd' : d = .non ∨ d = .int b := by simpa using hd9
        have hd2 : d = .non ∨ ∃ b : Int, d = .int b ∧ 0 ≤ b ∧ b < 4 := hd'.imp id fun z => ⟨b, z, b0, b1⟩
        exact fin _ _ H8 (by show 4 ≤ 10; decide) (step_write ⟨a0, a1⟩ ⟨c0, c1⟩ hd2) ((e16.trans e7).trans e8) m8 (p8.le (by omega)) (.cons (.str _) (.cons (.int a) (.cons (.int c) (.cons r8 .nil))))
      · rw [decide_eq_false h3, if_neg (by decide)]
        refine tn_seq (ts_ifseq (teq "copy" m6 (by decide +kernel)) fun H7 e7 => ?_)
        have m7 := m6.ex e7
        have p7 := p6.ex m6 e7
        have e17 : Ex1 p H H7 := e16.trans (Ex.ex1 e7)
        by_cases h4 : w = "copy"
        · rw [decide_eq_true h4, if_pos rfl]
          have hv : EvD K S (tIf (tTest (tOp (rNeD K) (tVar 3) (tVar 2))) (tVar 3) (tOp rModI (tOp rAddI (tVar 2) (tC (.int 1))) (tC (.int 4)))) [some (.ref p), some (.str w), some (.int a), some (.int b)] H7 (.int (if b = a then (a + 1).fmod 4 else b)) := by
            have q1 := eb_T (ev_op m7 (ev_var (K := K) (σ := [some (.ref p), some (.str w), some (.int a), some (.int b)]) (i := 3) m7 rfl (.int b)) (ev_var (i := 2) m7 rfl (.int a)) (r_neD rfl rfl (Nat.zero_le _) (Nat.zero_le _)))
            rw [eqD_int] at q1
            refine ev_if q1 (fun g => ?_) fun g => ?_
            · have : ¬ b = a := by simpa using g
              rw [if_neg this]; exact ev_var (i := 3) m7 rfl (.int b)
            · have : b = a := by simpa using g
              rw [if_pos this]
              exact ev_op m7 (ev_op m7 (ev_var (i := 2) m7 rfl (.int a)) ev_int r_add) ev_int (r_mod (by decide))
          refine ⟨_, rfl, _, rfl, hv H7 (Evl.Ex.refl _) _ fun u H8 e8 r8 => ?_⟩
          cases r8
          subst h4
          have hc : 0 ≤ (if b = a then (a + 1).fmod 4 else b) ∧ (if b = a then (a + 1).fmod 4 else b) < 4 ∧ a ≠ (if b = a then (a + 1).fmod 4 else b) := by
            by_cases hba : b = a
            · rw [if_pos hba]
              rcases (by omega : a = 0 ∨ a = 1 ∨ a = 2 ∨ a = 3) with rfl | rfl | rfl | rfl <;> decide
            · rw [if_neg hba]
              exact ⟨b0, b1, fun z => hba z.symm⟩
          exact fin _ _ H8 (by show 3 ≤ 10; decide) (step_copy ⟨a0, a1⟩ ⟨hc.1, hc.2.1⟩ hc.2.2) (e17.trans (Ex.ex1 e8)) (m7.ex e8) ((p7.ex m7 e8).le (by omega)) (.cons (.str _) (.cons (.int a) (.cons (.int _) .nil)))
        · rw [decide_eq_false h4, if_neg (by decide)]
          refine tn_ret ?_
          refine teq "drop" m7 (by decide +kernel) H7 (Evl.Ex.refl _) _ fun H8 e8 => ?_
          have m8 := m7.ex e8
          have p8 := p7.ex m7 e8
          have e18 : Ex1 p H H8 := e17.trans (Ex.ex1 e8)
          by_cases h5 : w = "drop"
          · rw [decide_eq_true h5, if_pos rfl]
            subst h5
            exact ⟨_, rfl, _, rfl, fin _ _ H8 (by show 2 ≤ 10; decide) (step_drop ⟨a0, a1⟩) e18 m8 (p8.le (by omega)) (.cons (.str _) (.cons (.int a) .nil))⟩
          · rw [decide_eq_false h5, if_neg (by decide)]
            have h6 : w = "tick" := by
              have : w = "new" ∨ w = "read" ∨ w = "write" ∨ w = "copy" ∨ w = "drop" ∨ w = "tick" := by simpa [sixNames] using hw
              rcases this with z | z | z | z | z | z
              · exact absurd z h1
              · exact absurd z h2
              · exact absurd z h3
              · exact absurd z h4
              · exact absurd z h5
              · exact z
            subst h6
            exact ⟨_, rfl, fin _ _ H8 (by show 1 ≤ 10; decide) step_tick e18 m8 (p8.le (by omega)) (.cons (.str _) .nil)⟩
end
end Nv
set_option Elab.async false
set_option linter.all false
set_option maxRecDepth 100000
set_option maxHeartbeats 4000000
/-! Promises of the law's own defs: bent. -/
namespace Nv
open PySem PySem.Spec PyProof.Rows L2 StX NvZ
def WP : List Str := ["0", "1", "2", "3", "4", "01", "-1", "+1", "1_0", "-", "", "new", "read", "write", "copy", "drop", "tick", "New", "10", " ", "none"]
def WL : List Str := ["0", "1", "2", "3", "4", "01", "-1", "+1", "1_0", "-", "", "new", "read", "write", "copy", "drop", "tick", "New", "10", "none"]
structure LinesOk (N M : Nat) (ls : List (List Str)) : Prop where
  ne : ls ≠ []
  len : ls.length ≤ N
  each : ∀ ws ∈ ls, ws ≠ [] ∧ ws.length ≤ M ∧ ∀ w ∈ ws, w ∈ WL
def lineD (ws : List Str) : D := .lst (ws.map D.str)
theorem linesD_eq (ls : List (List Str)) : linesD ls = .lst (ls.map lineD) := rfl
theorem wl_ok : ∀ w ∈ WL, PyData.strOk w = true ∧ w.length ≤ 5 := by decide +kernel
theorem wp_wl {w : Str} (h : w ∈ WP) : (if w = " " then ("" : Str) else w) ∈ WL := by
  have : ∀ x ∈ WP, (if x = " " then ("" : Str) else x) ∈ WL := by decide +kernel
  exact this w h
section
variable {K : PySem.W.Frag} {A : Ads} {S : Addr → Prop} {σ : L2.St} {H H' : Hp} {E : XK} {p : Addr} {n : Nat}
theorem get_lines {ls : List (List Str)} {j : Nat} (h : j < ls.length) : (ls.map lineD)[j]? = some (lineD (ls.getD j [])) := by
  rw [List.getElem?_map, List.getElem?_eq_getElem h]
  simp [List.getD, h]
/-- lines[:i], lines[i:] at D, f what the items are -/
theorem ev_to {α : Type} {f : α → D} {te th : TE} {l : List α} {j : Nat} (m : Mem S H) (h : EvD K S te σ H (.lst (l.map f))) (hj : EvD K S th σ H (.int j)) : EvD K S (tSl (rSl K) te tNoPart (tPart th)) σ H (.lst ((l.take j).map f)) := by
  have := ev_slL m h eo_none (eo_some hj)
  rw [cut_to', ← List.map_take] at this
  exact this
theorem ev_from {α : Type} {f : α → D} {te th : TE} {l : List α} {j : Nat} (m : Mem S H) (h : EvD K S te σ H (.lst (l.map f))) (hj : EvD K S th σ H (.int j)) (hl : j ≤ l.length) : EvD K S (tSl (rSl K) te (tPart th) tNoPart) σ H (.lst ((l.drop j).map f)) := by
  have := ev_slL m h (eo_some hj) eo_none
  rw [cut_from (by rw [List.length_map]; exact hl), ← List.map_drop] at this
  exact this
theorem ev_catF {α : Type} {f : α → D} {ta tb : TE} {l r : List α} (m : Mem S H) (h1 : EvD K S ta σ H (.lst (l.map f))) (h2 : EvD K S tb σ H (.lst (r.map f))) (hz : l.length + r.length ≤ 100000) : EvD K S (tOp rCat ta tb) σ H (.lst ((l ++ r).map f)) := by
  rw [List.map_append]
  exact ev_op m h1 h2 (r_cat m (by rw [List.length_map, List.length_map]; exact hz))
theorem tn_ret' {te : TE} {D0 : Ends} (h : tRet te D0 σ H) : tNext { D0 with nx := tRet te D0 } σ H := h
def spBent (K : PySem.W.Frag) : Sp := fun vs H Q _ => ∃ S p n vl ls N M, vs = [.ref p, vl] ∧ Mem S H ∧ PenAt K S H p n ∧ n ≤ 999990 ∧ Rp K S H vl (linesD ls) ∧ LinesOk N M ls ∧ N ≤ 20 ∧ M ≤ 20 ∧
  ∀ ls' v H', LinesOk (N + 1) (M + 1) ls' → Ex1 p H H' → Mem S H' → PenAt K S H' p (n + 4) → Rp K S H' v (linesD ls') → Q v H'
theorem LinesOk.cut {N M : Nat} {ls : List (List Str)} {x : List Str} {j i : Nat} (h : LinesOk N M ls) (hx : x ≠ [] ∧ x.length ≤ M + 1 ∧ ∀ w ∈ x, w ∈ WL) (hj : j ≤ i) : LinesOk (N + 1) (M + 1) (ls.take j ++ [x] ++ ls.drop i) := by
  refine ⟨by simp, ?_, fun ws hw => ?_⟩
  · rw [List.length_append, List.length_append, List.length_take, List.length_drop, List.length_singleton]
    have := h.len
    omega
  · rw [List.mem_append, List.mem_append] at hw
    rcases hw with (hw | hw) | hw
    · obtain ⟨a, b, c⟩ := h.each ws (List.mem_of_mem_take hw)
      exact ⟨a, by omega, c⟩
    · have : ws = x := by simpa using hw
      rw [this]; exact hx
    · obtain ⟨a, b, c⟩ := h.each ws (List.mem_of_mem_drop hw)
      exact ⟨a, by omega, c⟩
theorem pr_bent (vs : List V) (H : Hp) (Q : VK) (E : XK) (h : spBent K vs H Q E) : t_law_bent K A E (spDraw K) (spPick K) { nx := fun _ H' => Q .non H', rt := Q } (start ["pen", "lines", "line", "words", "way", "at", "word", "bent"] vs) H := by
  obtain ⟨S, p, n, vl, ls, N, M, rfl, m, hp, hn, rl, L, hN, hM, k⟩ := h
  show t_law_bent K A E (spDraw K) (spPick K) { nx := fun _ H' => Q .non H', rt := Q } [some (.ref p), some vl, none, none, none, none, none, none] H
  have hls : 0 < ls.length := by
    cases ls with
    | nil => exact absurd rfl L.ne
    | cons => simp
  have hlL := L.len
  have sp := hp.1
  refine ts_setk (cx_draw (i := 0) m rfl hp (by omega) (ev_cb (ea_cons m (ev_var (i := 1) m rfl rl) ea_nil) (ra_len rfl)) (by show (1 : Int) ≤ (((ls.map lineD).length : Nat) : Int); rw [List.length_map]; omega) (by show (((ls.map lineD).length : Nat) : Int) ≤ 1000; rw [List.length_map]; omega) fun li H1 l0 l1 e1 m1 p1 => ?_)
  obtain ⟨line, rfl⟩ : ∃ j : Nat, li = j := ⟨li.toNat, by omega⟩
  have hline : line < ls.length := by
    have : ((line : Nat) : Int) < (((ls.map lineD).length : Nat) : Int) := l1
    rw [List.length_map] at this; omega
  have rl1 := rl.mono (Ex1.exS m sp e1 p1.there)
  generalize hws : ls.getD line [] = ws
  have hwsm : ws ∈ ls := by rw [← hws]; exact getD_mem hline
  obtain ⟨wne, wlen, wwl⟩ := L.each ws hwsm
  have hwpos : 0 < ws.length := by
    cases ws with
    | nil => exact absurd rfl wne
    | cons => simp
  show tSeq (tPar 3 4 _) _ _ [some (.ref p), some vl, some (.int line), none, none, none, none, none] H1
  have hw1 : EvD K S (tOp (rIx K) (tVar 1) (tVar 2)) [some (.ref p), some vl, some (.int line), none, none, none, none, none] H1 (lineD ws) := ev_op m1 (ev_var (i := 1) m1 rfl rl1) (ev_var (i := 2) m1 rfl (.int line)) (r_ixL (show (ls.map lineD)[line]? = _ by rw [get_lines hline, hws]))
  refine hw1 H1 (Evl.Ex.refl _) _ fun vw H2 e2 rw2 => ?_
  have m2 := m1.ex e2
  have p2 := p1.ex m1 e2
  refine cx_draw (i := 0) m2 rfl p2 (by omega) (ev_int (i := 8)) (by decide) (by decide) fun way H3 w0 w1 e3 m3 p3 => ?_
  refine ⟨_, _, rfl, ?_⟩
  have rw3 := rw2.mono (Ex1.exS m2 sp e3 p3.there)
  have rl3 := (rl1.mono (.of m1 e2)).mono (Ex1.exS m2 sp e3 p3.there)
  show tSeq _ _ _ [some (.ref p), some vl, some (.int line), some vw, some (.int way), none, none, none] H3
  refine ts_setk (cx_draw (i := 0) m3 rfl p3 (by omega) (ev_cb (ea_cons m3 (ev_var (i := 3) m3 rfl rw3) ea_nil) (ra_len rfl)) (by show (1 : Int) ≤ (((ws.map D.str).length : Nat) : Int); rw [List.length_map]; omega) (by show (((ws.map D.str).length : Nat) : Int) ≤ 1000; rw [List.length_map]; omega) fun ai H4 a0 a1 e4 m4 p4 => ?_)
  obtain ⟨a, rfl⟩ : ∃ j : Nat, ai = j := ⟨ai.toNat, by omega⟩
  have hat : a < ws.length := by
    have : ((a : Nat) : Int) < (((ws.map D.str).length : Nat) : Int) := a1
    rw [List.length_map] at this; omega
  have rw4 := rw3.mono (Ex1.exS m3 sp e4 p4.there)
  have rl4 := rl3.mono (Ex1.exS m3 sp e4 p4.there)
  show tSeq _ _ _ [some (.ref p), some vl, some (.int line), some vw, some (.int way), some (.int a), none, none] H4
  have picks : EvD K S (tLst (tCons (tC (.str "0")) (tCons (tC (.str "1")) (tCons (tC (.str "2")) (tCons (tC (.str "3")) (tCons (tC (.str "4")) (tCons (tC (.str "01")) (tCons (tC (.str "-1")) (tCons (tC (.str "+1")) (tCons (tC (.str "1_0")) (tCons (tC (.str "-")) (tCons (tC (.str "")) (tCons (tC (.str "new")) (tCons (tC (.str "read")) (tCons (tC (.str "write")) (tCons (tC (.str "copy")) (tCons (tC (.str "drop")) (tCons (tC (.str "tick")) (tCons (tC (.str "New")) (tCons (tC (.str "10")) (tCons (tC (.str " ")) (tCons (tC (.str "none")) tNil))))))))))))))))))))))
      [some (.ref p), some vl, some (.int line), some vw, some (.int way), some (.int a), none, none] H4 (.lst (WP.map D.str)) :=
    ev_lst m4 (ea_cons m4 ev_str (ea_cons m4 ev_str (ea_cons m4 ev_str (ea_cons m4 ev_str (ea_cons m4 ev_str (ea_cons m4 ev_str (ea_cons m4 ev_str (ea_cons m4 ev_str (ea_cons m4 ev_str (ea_cons m4 ev_str (ea_cons m4 ev_str (ea_cons m4 ev_str (ea_cons m4 ev_str (ea_cons m4 ev_str (ea_cons m4 ev_str (ea_cons m4 ev_str (ea_cons m4 ev_str (ea_cons m4 ev_str (ea_cons m4 ev_str (ea_cons m4 ev_str (ea_cons m4 ev_str ea_nil))))))))))))))))))))) (by decide)
  refine ts_setk (cx_pick (i := 0) m4 rfl p4 (by omega) picks (by decide) (by decide) fun d v H5 hd e5 m5 p5 r5 => ?_)
  obtain ⟨w, hw, rfl⟩ := List.mem_map.mp hd
  cases r5
  have rw5 := rw4.mono (Ex1.exS m4 sp e5 p5.there)
  have rl5 := rl4.mono (Ex1.exS m4 sp e5 p5.there)
  have e15 : Ex1 p H H5 := (((e1.trans (Ex.ex1 e2)).trans e3).trans e4).trans e5
  have wpok : PyData.strOk w = true := by
    have : ∀ x ∈ WP, PyData.strOk x = true := by decide +kernel
    exact this w hw
  show tSeq _ _ _ [some (.ref p), some vl, some (.int line), some vw, some (.int way), some (.int a), some (.str w), none] H5
  have hword : EvD K S (tIf (tTest (tOp (rNeD K) (tVar 6) (tC (.str " ")))) (tVar 6) (tC (.str ""))) [some (.ref p), some vl, some (.int line), some vw, some (.int way), some (.int a), some (.str w), none] H5 (.str (if w = " " then ("" : Str) else w)) := by
    have q1 := eb_T (ev_op m5 (ev_var (K := K) (σ := [some (.ref p), some vl, some (.int line), some vw, some (.int way), some (.int a), some (.str w), none]) (i := 6) m5 rfl (.str w)) (ev_str (i := " ")) (r_neD (d1 := .str w) wpok (by decide +kernel) (Nat.zero_le _) (Nat.zero_le _)))
    rw [eqD_str] at q1
    refine ev_if q1 (fun g => ?_) fun g => ?_
    · have : ¬ w = " " := by simpa using g
      rw [if_neg this]; exact ev_var (i := 6) m5 rfl (.str w)
    · have : w = " " := by simpa using g
      rw [if_pos this]; exact ev_str
  refine ts_set hword fun v6 H6 e6 r6 => ?_
  have hwl := wp_wl hw
  generalize (if w = " " then ("" : Str) else w) = word at r6 hwl
  cases r6
  have m6 := m5.ex e6
  have p6 := p5.ex m5 e6
  have rw6 := rw5.mono (.of m5 e6)
  have rl6 := rl5.mono (.of m5 e6)
  have e16 : Ex1 p H H6 := e15.trans (Ex.ex1 e6)
  -- the return of lines
  have ret : ∀ (te : TE) (σ' : L2.St) (ls' : List (List Str)) (H7 : Hp), Ex H6 H7 → LinesOk (N + 1) (M + 1) ls' → EvD K S te σ' H7 (linesD ls') → (tRet te) { nx := fun _ H' => Q .non H', rt := Q } σ' H7 := fun te σ' ls' H7 e7 ok he => ts_ret he fun u H8 e8 r8 => by
    have x := e7.trans e8
    exact k ls' u H8 ok (e16.trans (Ex.ex1 x)) (m6.ex x) ((p6.ex m6 x).le (by omega)) r8
  have hlt : EvB (tTest (tOp rLtI (tVar 4) (tC (.int 4)))) [some (.ref p), some vl, some (.int line), some vw, some (.int way), some (.int a), some (.str word), none] H6 (decide (way < 4)) := eb_T (ev_op m6 (ev_var (K := K) (i := 4) m6 rfl (.int way)) ev_int r_lt)
  have one : word ∈ WL → ([word] ≠ [] ∧ [word].length ≤ M + 1 ∧ ∀ w ∈ [word], w ∈ WL) := fun h => ⟨by simp, by simp, fun x hx => by
    have : x = word := by simpa using hx
    rw [this]; exact h⟩
  show tSeq (tIfS _ _ _) _ _ [some (.ref p), some vl, some (.int line), some vw, some (.int way), some (.int a), some (.str word), none] H6
  refine ts_ifseq hlt fun H7 e7 => ?_
  have m7 := m6.ex e7
  have rw7 := rw6.mono (.of m6 e7)
  have rl7 := rl6.mono (.of m6 e7)
  have ew : ∀ {x : Option V} {HH : Hp}, Mem S HH → Rp K S HH vw (lineD ws) → EvD K S (tVar 3) [some (.ref p), some vl, some (.int line), some vw, some (.int way), some (.int a), some (.str word), x] HH (.lst (ws.map D.str)) := fun mm rr => ev_var (i := 3) mm rfl rr
  have ea : ∀ {x : Option V} {HH : Hp}, Mem S HH → EvD K S (tVar 5) [some (.ref p), some vl, some (.int line), some vw, some (.int way), some (.int a), some (.str word), x] HH (.int a) := fun mm => ev_var (i := 5) mm rfl (.int _)
  have ea1 : ∀ {x : Option V} {HH : Hp}, Mem S HH → EvD K S (tOp rAddI (tVar 5) (tC (.int 1))) [some (.ref p), some vl, some (.int line), some vw, some (.int way), some (.int a), some (.str word), x] HH (.int ((a + 1 : Nat) : Int)) := fun mm => (ev_op mm (ea mm) (ev_int (i := 1)) r_add).is rfl
  have eo : ∀ {x : Option V} {HH : Hp}, Mem S HH → EvD K S (tLst (tCons (tVar 6) tNil)) [some (.ref p), some vl, some (.int line), some vw, some (.int way), some (.int a), some (.str word), x] HH (.lst ([word].map D.str)) := fun mm => ev_lst mm (ev_a1 (ev_var (i := 6) mm rfl (.str _))) (by show 1 ≤ _; decide)
  have el : ∀ {x : Option V} {HH : Hp}, Mem S HH → Rp K S HH vl (linesD ls) → EvD K S (tVar 1) [some (.ref p), some vl, some (.int line), some vw, some (.int way), some (.int a), some (.str word), x] HH (.lst (ls.map lineD)) := fun mm rr => ev_var (i := 1) mm rfl rr
  have ei : ∀ {x : Option V} {HH : Hp}, Mem S HH → EvD K S (tVar 2) [some (.ref p), some vl, some (.int line), some vw, some (.int way), some (.int a), some (.str word), x] HH (.int line) := fun mm => ev_var (i := 2) mm rfl (.int _)
  have ei1 : ∀ {x : Option V} {HH : Hp}, Mem S HH → EvD K S (tOp rAddI (tVar 2) (tC (.int 1))) [some (.ref p), some vl, some (.int line), some vw, some (.int way), some (.int a), some (.str word), x] HH (.int ((line + 1 : Nat) : Int)) := fun mm => (ev_op mm (ei mm) (ev_int (i := 1)) r_add).is rfl
  have eoo : ∀ {x : Option V} {HH : Hp}, Mem S HH → EvD K S (tLst (tCons (tLst (tCons (tVar 6) tNil)) tNil)) [some (.ref p), some vl, some (.int line), some vw, some (.int way), some (.int a), some (.str word), x] HH (.lst ([[word]].map lineD)) := fun mm => ev_lst mm (ev_a1 (eo mm)) (by show 1 ≤ _; decide)
  have tkl : (ls.take line).length ≤ ls.length := by rw [List.length_take]; omega
  have drl : ∀ j, (ls.drop j).length ≤ ls.length := fun j => by rw [List.length_drop]; omega
  have twl : (ws.take a).length ≤ ws.length := by rw [List.length_take]; omega
  have dwl : ∀ j, (ws.drop j).length ≤ ws.length := fun j => by rw [List.length_drop]; omega
  by_cases hway : way < 4
  · rw [decide_eq_true hway, if_pos rfl]
    have b0 := ev_catF (f := D.str) m7 (ev_to m7 (ew (x := none) m7 rw7) (ea m7)) (ev_from m7 (ew m7 rw7) (ea1 m7) (by omega)) (by have := dwl (a + 1); omega)
    have b1 := ev_catF (f := D.str) m7 (ev_catF (f := D.str) m7 (ev_to m7 (ew (x := none) m7 rw7) (ea m7)) (eo m7) (by show _ + 1 ≤ _; omega)) (ev_from m7 (ew m7 rw7) (ea m7) (by omega)) (by have := dwl a; rw [List.length_append]; show _ + 1 + _ ≤ _; omega)
    have b2 := ev_catF (f := D.str) m7 (ev_catF (f := D.str) m7 (ev_to m7 (ew (x := none) m7 rw7) (ea m7)) (eo m7) (by show _ + 1 ≤ _; omega)) (ev_from m7 (ew m7 rw7) (ea1 m7) (by omega)) (by have := dwl (a + 1); rw [List.length_append]; show _ + 1 + _ ≤ _; omega)
    have b3 := ev_catF (f := D.str) m7 (ew (x := none) m7 rw7) (eo m7) (by show _ + 1 ≤ _; omega)
    have four := ev_lst m7 (ea_cons m7 b0 (ea_cons m7 b1 (ea_cons m7 b2 (ea_cons m7 b3 ea_nil)))) (by show 4 ≤ _; decide)
    obtain ⟨wy, rfl⟩ : ∃ j : Nat, way = j := ⟨way.toNat, by omega⟩
    have hb : ∃ bent : List Str, [lineD (ws.take a ++ ws.drop (a + 1)), lineD (ws.take a ++ [word] ++ ws.drop a), lineD (ws.take a ++ [word] ++ ws.drop (a + 1)), lineD (ws ++ [word])][wy]? = some (lineD bent) ∧ bent.length ≤ M + 1 ∧ ∀ w ∈ bent, w ∈ WL := by
      have mt : ∀ x ∈ ws.take a, x ∈ WL := fun x hx => wwl x (List.mem_of_mem_take hx)
      have md : ∀ j, ∀ x ∈ ws.drop j, x ∈ WL := fun j x hx => wwl x (List.mem_of_mem_drop hx)
      have mo : ∀ x ∈ [word], x ∈ WL := fun x hx => by
        have : x = word := by simpa using hx
        rw [this]; exact hwl
      have ap : ∀ (l r : List Str), (∀ x ∈ l, x ∈ WL) → (∀ x ∈ r, x ∈ WL) → ∀ x ∈ l ++ r, x ∈ WL := fun l r h1 h2 x hx => (List.mem_append.mp hx).elim (h1 x) (h2 x)
      rcases (by omega : wy = 0 ∨ wy = 1 ∨ wy = 2 ∨ wy = 3) with rfl | rfl | rfl | rfl
      · exact ⟨_, rfl, by rw [List.length_append, List.length_take, List.length_drop]; omega, ap _ _ mt (md _)⟩
      · exact ⟨_, rfl, by rw [List.length_append, List.length_append, List.length_take, List.length_drop, List.length_singleton]; omega, ap _ _ (ap _ _ mt mo) (md _)⟩
      · exact ⟨_, rfl, by rw [List.length_append, List.length_append, List.length_take, List.length_drop, List.length_singleton]; omega, ap _ _ (ap _ _ mt mo) (md _)⟩
      · exact ⟨_, rfl, by rw [List.length_append, List.length_singleton]; omega, ap _ _ wwl mo⟩
    obtain ⟨bent, hb1, hb2, hb3⟩ := hb
    refine ts_set (K := K) (S := S) (σ := [some (.ref p), some vl, some (.int line), some vw, some (.int (wy : Int)), some (.int a), some (.str word), none]) (ev_op m7 four (ev_var (i := 4) m7 rfl (.int (wy : Int))) (r_ixL hb1)) fun vb H8 e8 rb => ?_
    have m8 := m7.ex e8
    have rl8 := rl7.mono (.of m7 e8)
    have hne : EvB (tTest (tOp (rNeD K) (tVar 7) (tLst tNil))) [some (.ref p), some vl, some (.int line), some vw, some (.int (wy : Int)), some (.int a), some (.str word), some vb] H8 (!decide (bent = [])) := by
      have pl : plainD (lineD bent) = true := by
        show plainA (bent.map D.str) = true
        have : ∀ l : List Str, (∀ x ∈ l, PyData.strOk x = true) → plainA (l.map D.str) = true := fun l => by
          induction l with
          | nil => intro _; rfl
          | cons x l ih =>
            intro h
            show (PyData.strOk x && plainA (l.map D.str)) = true
            rw [h x List.mem_cons_self, ih fun y hy => h y (List.mem_cons_of_mem _ hy)]; rfl
        exact this bent fun x hx => (wl_ok x (hb3 x hx)).1
      have dp : dep (lineD bent) ≤ 64 := by
        show depA (bent.map D.str) + 1 ≤ 64
        have : ∀ l : List Str, depA (l.map D.str) = 0 := fun l => by induction l with | nil => rfl | cons x l ih => show max 0 (depA _) = 0; rw [ih]; rfl
        rw [this]; decide
      refine (eb_T (ev_op m8 (ev_var (σ := [some (.ref p), some vl, some (.int line), some vw, some (.int (wy : Int)), some (.int a), some (.str word), some vb]) (i := 7) m8 rfl rb) (ev_lst m8 ea_nil (by decide)) (r_neD pl rfl dp (by show 1 ≤ 64; decide)))).is ?_
      cases bent with
      | nil => rfl
      | cons => rfl
    have hbb : EvD K S (tIf (tTest (tOp (rNeD K) (tVar 7) (tLst tNil))) (tVar 7) (tLst (tCons (tC (.str "")) tNil))) [some (.ref p), some vl, some (.int line), some vw, some (.int (wy : Int)), some (.int a), some (.str word), some vb] H8 (lineD (if bent = [] then [""] else bent)) := by
      refine ev_if hne (fun g => ?_) fun g => ?_
      · have : ¬ bent = [] := by simpa using g
        rw [if_neg this]; exact ev_var (i := 7) m8 rfl rb
      · have : bent = [] := by simpa using g
        rw [if_pos this]; exact ev_lst m8 (ev_a1 ev_str) (by decide)
    have okb : (if bent = [] then ([""] : List Str) else bent) ≠ [] ∧ (if bent = [] then ([""] : List Str) else bent).length ≤ M + 1 ∧ ∀ w ∈ (if bent = [] then ([""] : List Str) else bent), w ∈ WL := by
      by_cases hbe : bent = []
      · rw [if_pos hbe]
        exact ⟨by simp, by simp, fun x hx => by
          have : x = "" := by simpa using hx
          rw [this]; decide +kernel⟩
      · rw [if_neg hbe]; exact ⟨hbe, hb2, hb3⟩
    refine ret _ _ _ H8 (e7.trans e8) (L.cut (i := line + 1) okb (Nat.le_succ line)) ?_
    exact ev_catF (f := lineD) m8 (ev_catF (f := lineD) (r := [if bent = [] then [""] else bent]) m8 (ev_to m8 (el m8 rl8) (ei m8)) (ev_lst m8 (ev_a1 hbb) (by show 1 ≤ _; decide)) (by rw [List.length_singleton]; omega)) (ev_from m8 (el m8 rl8) (ei1 m8) (by omega)) (by have := drl (line + 1); rw [List.length_append, List.length_singleton]; omega)
  · rw [decide_eq_false hway, if_neg (by decide)]
    have eqw : ∀ {HH : Hp} (j : Int), Mem S HH → EvB (tTest (tOp (rEqD K) (tVar 4) (tC (.int j)))) [some (.ref p), some vl, some (.int line), some vw, some (.int way), some (.int a), some (.str word), none] HH (decide (way = j)) := fun j mm => by
      have := eb_T (ev_op mm (ev_var (K := K) (σ := [some (.ref p), some vl, some (.int line), some vw, some (.int way), some (.int a), some (.str word), none]) (i := 4) mm rfl (.int way)) (ev_int (i := j)) (r_eqD rfl rfl (Nat.zero_le _) (Nat.zero_le _)))
      rwa [eqD_int] at this
    refine tn_seq (ts_ifseq (eqw 4 m7) fun H8 e8 => ?_)
    have m8 := m7.ex e8
    have rl8 := rl7.mono (.of m7 e8)
    by_cases h4 : way = 4
    · rw [decide_eq_true h4, if_pos rfl]
      by_cases hl1 : 1 < ls.length
      · have hgt : EvB (tTest (tOp rGtI (tCB (rLenV K) (tCons (tVar 1) tNil)) (tC (.int 1)))) [some (.ref p), some vl, some (.int line), some vw, some (.int way), some (.int a), some (.str word), none] H8 true := by
          refine (eb_T (ev_op m8 (ev_cb (ea_cons m8 (el m8 rl8) ea_nil) (ra_len rfl)) ev_int r_gt)).is ?_
          show decide ((1 : Int) < (((ls.map lineD).length : Nat) : Int)) = true
          rw [List.length_map]; exact decide_eq_true (by omega)
        refine ret _ _ (ls.take line ++ ls.drop (line + 1)) H8 (e7.trans e8) ⟨?_, ?_, fun x hx => ?_⟩ (ev_if hgt (fun _ => ev_catF (f := lineD) m8 (ev_to m8 (el m8 rl8) (ei m8)) (ev_from m8 (el m8 rl8) (ei1 m8) (by omega)) (by have := drl (line + 1); omega)) fun z => by cases z)
        · intro z
          have := congrArg List.length z
          rw [List.length_append, List.length_take, List.length_drop, List.length_nil] at this
          omega
        · rw [List.length_append, List.length_take, List.length_drop]; omega
        · have : x ∈ ls := (List.mem_append.mp hx).elim List.mem_of_mem_take List.mem_of_mem_drop
          obtain ⟨q1, q2, q3⟩ := L.each x this
          exact ⟨q1, by omega, q3⟩
      · have hgt : EvB (tTest (tOp rGtI (tCB (rLenV K) (tCons (tVar 1) tNil)) (tC (.int 1)))) [some (.ref p), some vl, some (.int line), some vw, some (.int way), some (.int a), some (.str word), none] H8 false := by
          refine (eb_T (ev_op m8 (ev_cb (ea_cons m8 (el m8 rl8) ea_nil) (ra_len rfl)) ev_int r_gt)).is ?_
          show decide ((1 : Int) < (((ls.map lineD).length : Nat) : Int)) = false
          rw [List.length_map]; exact decide_eq_false (by omega)
        refine ret _ _ [[word]] H8 (e7.trans e8) ⟨by simp, by show 1 ≤ N + 1; omega, fun x hx => ?_⟩ (ev_if hgt (fun z => by cases z) fun _ => eoo m8)
        have : x = [word] := by simpa using hx
        rw [this]; exact one hwl
    · rw [decide_eq_false h4, if_neg (by decide)]
      refine tn_seq (ts_ifseq (eqw 5 m8) fun H9 e9 => ?_)
      have m9 := m8.ex e9
      have rl9 := rl8.mono (.of m8 e9)
      have rw9 := rw7.mono (.of m7 (e8.trans e9))
      by_cases h5 : way = 5
      · rw [decide_eq_true h5, if_pos rfl]
        refine ret _ _ _ H9 ((e7.trans e8).trans e9) (L.cut (x := ws) ⟨wne, by omega, wwl⟩ (Nat.le_refl line)) ?_
        exact ev_catF (f := lineD) m9 (ev_catF (f := lineD) (r := [ws]) m9 (ev_to m9 (el m9 rl9) (ei m9)) (ev_lst m9 (ev_a1 (ew m9 rw9)) (by show 1 ≤ _; decide)) (by show _ + 1 ≤ _; omega)) (ev_from m9 (el m9 rl9) (ei m9) (by omega)) (by have := drl line; rw [List.length_append]; show _ + 1 + _ ≤ _; omega)
      · rw [decide_eq_false h5, if_neg (by decide)]
        refine tn_seq (ts_ifseq (eqw 6 m9) fun H10 e10 => ?_)
        have m10 := m9.ex e10
        have rl10 := rl9.mono (.of m9 e10)
        by_cases h6 : way = 6
        · rw [decide_eq_true h6, if_pos rfl]
          refine ret _ _ _ H10 (((e7.trans e8).trans e9).trans e10) (L.cut (x := [word]) (one hwl) (Nat.le_refl line)) ?_
          exact ev_catF (f := lineD) m10 (ev_catF (f := lineD) m10 (ev_to m10 (el m10 rl10) (ei m10)) (eoo m10) (by show _ + 1 ≤ _; omega)) (ev_from m10 (el m10 rl10) (ei m10) (by omega)) (by have := drl line; rw [List.length_append]; show _ + 1 + _ ≤ _; omega)
        · rw [decide_eq_false h6, if_neg (by decide)]
          refine tn_ret' (ret _ _ (ls ++ [[word]]) H10 (((e7.trans e8).trans e9).trans e10) ⟨by simp, by rw [List.length_append]; show _ + 1 ≤ _; omega, fun x hx => ?_⟩ (ev_catF (f := lineD) m10 (el m10 rl10) (eoo m10) (by show _ + 1 ≤ _; omega)))
          rcases List.mem_append.mp hx with hx | hx
          · obtain ⟨q1, q2, q3⟩ := L.each x hx
            exact ⟨q1, by omega, q3⟩
          · have : x = [word] := by simpa using hx
            rw [this]; exact one hwl
end
end Nv
set_option Elab.async false
set_option linter.all false
set_option maxRecDepth 100000
set_option maxHeartbeats 4000000
/-! _law_heard of a lambda. -/
namespace Nv
open PySem PySem.Spec PyProof.Rows L2 StX NvZ LamX
abbrev st_heard : Stmt := PySem.Challenge.pw_nevergone_k94_texts_of_programs_refused.main.body.getD 44 (.Pass ⟨0, 0, 0, 0⟩)
abbrev nHeard : List Str := ["ask", "told", "caught", "error", "kinds", "words", "word", "is_so"]
theorem sc_heard : FnScope nHeard ["ask"] (defScope st_heard) := ⟨rfl, rfl, rfl, by decide +kernel, rfl, by decide +kernel, by decide +kernel⟩
/-- the classes of the exceptions -/
structure Hx (A : Ads) (K : PySem.W.Frag) (mg : Str → Option Value) (cG cT : Addr) : Prop where
  gG : mg "GoneError" = some (.ref cG)
  gT : mg "TooMany" = some (.ref cT)
  gX : mg "BadText" = some (.ref A.cBadText)
  gP : mg "BadProgram" = some (.ref A.cBadProgram)
  eX : PySem.W.exmOne K (.ref A.cBadText) (.ref cG) = some true
  eP : PySem.W.exmOne K (.ref A.cBadProgram) (.ref cG) = some true
  cX : ExcC K A.cBadText
  cP : ExcC K A.cBadProgram
  fX : XfC K A.cBadText
  fP : XfC K A.cBadProgram
  nLine : PySem.W.findIn K (.ref A.cBadText) "line" = some none
  nWord : PySem.W.findIn K (.ref A.cBadText) "word" = some none
  nAt : PySem.W.findIn K (.ref A.cBadProgram) "at" = some none
  kXT : PySem.W.kitOne K (.ref A.cBadText) (.ref cT) = some false
  kXX : PySem.W.kitOne K (.ref A.cBadText) (.ref A.cBadText) = some true
  kPT : PySem.W.kitOne K (.ref A.cBadProgram) (.ref cT) = some false
  kPX : PySem.W.kitOne K (.ref A.cBadProgram) (.ref A.cBadText) = some false
  kPP : PySem.W.kitOne K (.ref A.cBadProgram) (.ref A.cBadProgram) = some true
inductive Res where
  | val (d : D) | text (l a : Int) | prog (i : Int)
def Res.d : Res → D
  | .val d => .lst [d]
  | .text l a => .tup [.str "text", .int l, .int a]
  | .prog i => .tup [.str "program", .int i]
/-- what a lambda does: its value, or one of the two exceptions -/
def Does (K : PySem.W.Frag) (A : Ads) (S : Addr → Prop) (H : Hp) (tl : XK → Hp → VK → Prop) (r : Res) : Prop := ∀ (Q : VK) (E : XK), (match r with
  | .val d => ∀ v H2, Ex H H2 → Rp K S H2 v d → Q v H2
  | .text l a => ∀ p H2, Ex H H2 → H p = none → H2 p = some (.xd [("line", .int l), ("word", .int a)]) → E (.ref A.cBadText) (some p) H2
  | .prog i => ∀ p H2, Ex H H2 → H p = none → H2 p = some (.xd [("at", .int i)]) → E (.ref A.cBadProgram) (some p) H2) → tl E H Q
def TTh (K : PySem.W.Frag) (A : Ads) (tl : XK → Hp → VK → Prop) (H : Hp) (Q : VK) : Prop := ∃ S r, Mem S H ∧ (∀ H1, Ex H H1 → Does K A S H1 tl r) ∧ ∀ v H', Ex H H' → Rp K S H' v r.d → Q v H'
def EW (W : WX) : XK := fun cls d H' => ∀ σ', σ'.length = 8 → W cls d σ' H'
abbrev tsH : TS := tAsg (tVar 3) (gName 2)
abbrev restH (K : PySem.W.Frag) (A : Ads) (cT : Addr) : TS :=
  tSeq (tIfS (tTest (tOp rIsN (tVar 2) (tC .non))) (tRet (tLst (tCons (tVar 1) tNil))) tNext)
  (tSeq (tIfS (tB (tCB (rIsX K) (tCons (tVar 2) (tCons (tC (.ref cT)) tNil)))) tNever tNext)
  (tSeq (tIfS (tB (tCB (rIsX K) (tCons (tVar 2) (tCons (tC (.ref A.cBadText)) tNil)))) (tRet (tTup (tCons (tC (.str "text")) (tCons (tXt K "line" (tVar 2)) (tCons (tXt K "word" (tVar 2)) tNil))))) tNext)
  (tSeq (tIfS (tB (tCB (rIsX K) (tCons (tVar 2) (tCons (tC (.ref A.cBadProgram)) tNil)))) (tRet (tTup (tCons (tC (.str "program")) (tCons (tXt K "at" (tVar 2)) tNil)))) tNext)
  tNever)))
def tryT (tb : WX → TS) (Wf : Ends → WX) : TS := fun D σ H => tb (Wf D) D σ H
def tbH (f c' : Addr) (q : Str) (tl : XK → Hp → VK → Prop) : WX → TS := fun W => tAsg (fun σZ HZ Q => σZ[0]? = some (some (.ref f)) ∧ HZ c' = some (CodeO c' q) ∧ tl (EW W) HZ Q) (gName 1)
def wfH (K : PySem.W.Frag) (cG : Addr) : Ends → WX := wAx K (.ref cG) 3 tsH (fun _ _ _ _ => False)
def tHeard (K : PySem.W.Frag) (A : Ads) (cG cT f c' : Addr) (q : Str) (tl : XK → Hp → VK → Prop) : TS :=
  tSeq (tAsg (tTup (tCons (tC .non) (tCons (tC .non) tNil))) (g2 K 1 2))
  (tSeq (tryT (tbH f c' q tl) (wfH K cG))
  (restH K A cT))
section
variable {K : PySem.W.Frag} {A : Ads} {S : Addr → Prop} {σ : L2.St} {H H' : Hp} {mg : Str → Option Value} {cG cT : Addr}
/-- the rest behind an exception that is kept -/
theorem rest_exc (h : Hx A K mg cG cT) {s0 s1 s4 s5 s6 s7 : Option V} {a p : Addr} {Q : VK} {r : Res} {C : Addr} {fs : List (Str × V)} (m : Mem S H) (ha : H a = some (ExT (.ref C) (some p) a)) (hp : H p = some (.xd fs))
    (hr : (∃ l w : Int, r = .text l w ∧ C = A.cBadText ∧ fs = ([("line", .int l), ("word", .int w)] : List (Str × V))) ∨ ∃ i : Int, r = .prog i ∧ C = A.cBadProgram ∧ fs = ([("at", .int i)] : List (Str × V)))
    (k : ∀ v H', Ex H H' → Rp K S H' v r.d → Q v H') : restH K A cT { nx := fun _ H' => Q .non H', rt := Q } [s0, s1, some (.ref a), none, s4, s5, s6, s7] H := by
  refine ⟨_, rfl, rfl, false, rfl, ?_⟩
  show tSeq (tIfS (tB (tCB (rIsX K) (tCons (tVar 2) (tCons (tC (.ref cT)) tNil)))) tNever tNext) _ { nx := fun _ H' => Q .non H', rt := Q } [s0, s1, some (.ref a), none, s4, s5, s6, s7] H
  rcases hr with ⟨l, w, rfl, rfl, rfl⟩ | ⟨i, rfl, rfl, rfl⟩
  · refine ⟨_, rfl, a, A.cBadText, p, _, _, .ref cT, false, rfl, h.cX, ha, hp, .own cT, h.kXT, false, rfl, ?_⟩
    show tSeq (tIfS (tB (tCB (rIsX K) (tCons (tVar 2) (tCons (tC (.ref A.cBadText)) tNil)))) _ tNext) _ { nx := fun _ H' => Q .non H', rt := Q } [s0, s1, some (.ref a), none, s4, s5, s6, s7] H
    refine ⟨_, rfl, a, A.cBadText, p, _, _, .ref A.cBadText, true, rfl, h.cX, ha, hp, .own _, h.kXX, true, rfl, ?_⟩
    simp only [if_true]
    refine ⟨_, rfl, a, A.cBadText, p, _, .int l, rfl, h.fX, h.nLine, ha, hp, rfl, _, rfl, a, A.cBadText, p, _, .int w, rfl, h.fX, h.nWord, ha, hp, rfl, by show 3 ≤ sizeLine; decide, fun t ht => ?_⟩
    exact k _ _ (Evl.Ex.new ht) (.newT m (.cons (.str _) (.cons (.int _) (.cons (.int _) .nil))) ht)
  · refine ⟨_, rfl, a, A.cBadProgram, p, _, _, .ref cT, false, rfl, h.cP, ha, hp, .own cT, h.kPT, false, rfl, ?_⟩
    show tSeq (tIfS (tB (tCB (rIsX K) (tCons (tVar 2) (tCons (tC (.ref A.cBadText)) tNil)))) _ tNext) _ { nx := fun _ H' => Q .non H', rt := Q } [s0, s1, some (.ref a), none, s4, s5, s6, s7] H
    refine ⟨_, rfl, a, A.cBadProgram, p, _, _, .ref A.cBadText, false, rfl, h.cP, ha, hp, .own _, h.kPX, false, rfl, ?_⟩
    show tSeq (tIfS (tB (tCB (rIsX K) (tCons (tVar 2) (tCons (tC (.ref A.cBadProgram)) tNil)))) _ tNext) _ { nx := fun _ H' => Q .non H', rt := Q } [s0, s1, some (.ref a), none, s4, s5, s6, s7] H
    refine ⟨_, rfl, a, A.cBadProgram, p, _, _, .ref A.cBadProgram, true, rfl, h.cP, ha, hp, .own _, h.kPP, true, rfl, ?_⟩
    simp only [if_true]
    refine ⟨_, rfl, a, A.cBadProgram, p, _, .int i, rfl, h.fP, h.nAt, ha, hp, rfl, by show 2 ≤ sizeLine; decide, fun t ht => ?_⟩
    exact k _ _ (Evl.Ex.new ht) (.newT m (.cons (.str _) (.cons (.int _) .nil)) ht)
end
end Nv
set_option Elab.async false
set_option linter.all false
set_option maxRecDepth 100000
set_option maxHeartbeats 400000
namespace Nv
open PySem PySem.Spec PyProof.Rows L2 StX NvZ LamX
section
variable {K : PySem.W.Frag} {A : Ads} {S : Addr → Prop} {σ : L2.St} {H H' : Hp} {mg : Str → Option Value} {cG cT : Addr}
theorem hd_par {i j : Nat} {r : TS} {D0 : Ends} (m : Mem S H) (h : ∀ H1, Ex H H1 → r D0 ((σ.set i (some .non)).set j (some .non)) H1) : tSeq (tAsg (tTup (tCons (tC .non) (tCons (tC .non) tNil))) (g2 K i j)) r D0 σ H := by
  refine ⟨by show 2 ≤ sizeLine; decide, fun t ht => ?_⟩
  exact ⟨t, [.non, .non], rfl, SqT.of upd_same, rfl, _, _, rfl, _, _, rfl, rfl, h _ (Evl.Ex.new ht)⟩
theorem hd_try {tb : WX → TS} {W : Ends → WX} {r : TS} {D0 : Ends} (h : tb (W { D0 with nx := r D0 }) { D0 with nx := r D0 } σ H) : tSeq (tryT tb W) r D0 σ H := h
theorem hd_tb {f c' : Addr} {q : Str} {tl : XK → Hp → VK → Prop} {W : WX} {D0 : Ends} (h : σ[0]? = some (some (.ref f)) ∧ H c' = some (CodeO c' q) ∧ tl (EW W) H fun v H1 => D0.nx (σ.set 1 (some v)) H1) : tbH f c' q tl W D0 σ H := h
theorem hd_asg {t : TE} {i : Nat} {D0 : Ends} (h : t σ H fun v H1 => D0.nx (σ.set i (some v)) H1) : tAsg t (gName i) D0 σ H := h
/-- the exceptions' wish -/
theorem exc_ew (h : Hx A K mg cG cT) {C p : Addr} {fs : List (Str × V)} {H2 : Hp} {Q : VK} {r : Res} {D1 : Ends} (m : Mem S H2) (hp : H2 p = some (.xd fs)) (he : PySem.W.exmOne K (.ref C) (.ref cG) = some true)
    (hr : (∃ l w : Int, r = .text l w ∧ C = A.cBadText ∧ fs = ([("line", .int l), ("word", .int w)] : List (Str × V))) ∨ ∃ i : Int, r = .prog i ∧ C = A.cBadProgram ∧ fs = ([("at", .int i)] : List (Str × V)))
    (k : ∀ v H', Ex H2 H' → Rp K S H' v r.d → Q v H') (hnx : ∀ σ H, restH K A cT { nx := fun _ H' => Q .non H', rt := Q } σ H → D1.nx σ H) : EW (wAx K (.ref cG) 3 tsH (fun _ _ _ _ => False) D1) (.ref C) (some p) H2 := by
  intro σ' hl
  refine ⟨true, he, fun _ a ha => ?_, fun z => by cases z⟩
  match σ', hl with
  | [s0, s1, s2, s3, s4, s5, s6, s7], _ =>
    have eN : Ex H2 (upd H2 a (ExT (.ref C) (some p) a)) := Evl.Ex.new ha
    refine ⟨.ref a, rfl, ?_⟩
    exact hnx _ _ (rest_exc h (s0 := s0) (s1 := s1) (s4 := s4) (s5 := s5) (s6 := s6) (s7 := s7) (m.ex eN) upd_same (eN _ _ hp) hr fun v H' e r' => k v H' (eN.trans e) r')
theorem rest_val {s0 s3 s4 s5 s6 s7 : Option V} {v : V} {d : D} {Q : VK} (m : Mem S H) (r : Rp K S H v d) (k : ∀ v H', Ex H H' → Rp K S H' v (.lst [d]) → Q v H') : restH K A cT { nx := fun _ H' => Q .non H', rt := Q } [s0, some v, some .non, s3, s4, s5, s6, s7] H := by
  refine ⟨_, rfl, rfl, true, rfl, ?_⟩
  simp only [if_true]
  refine ⟨v, rfl, by show 1 ≤ sizeLine; decide, fun t ht => ?_⟩
  exact k _ _ (Evl.Ex.new ht) (.newL m (.cons r .nil) ht)
theorem pr_heard (h : Hx A K mg cG cT) {f c' : Addr} {q : Str} {tl : XK → Hp → VK → Prop} {Q : VK} (hc : H c' = some (CodeO c' q)) (t : TTh K A tl H Q) : tHeard K A cG cT f c' q tl { nx := fun _ H' => Q .non H', rt := Q } [some (.ref f), none, none, none, none, none, none, none] H := by
  obtain ⟨S, r, m, hd, k⟩ := t
  unfold tHeard
  refine hd_par m fun H1 e1 => hd_try (hd_tb ⟨rfl, e1 _ _ hc, hd H1 e1 _ _ ?_⟩)
  cases r with
  | val d => exact fun v H2 e2 r2 => rest_val (m.ex (e1.trans e2)) r2 fun v H' e r' => k v H' ((e1.trans e2).trans e) r'
  | text l w => exact fun p H2 e2 _ hp => exc_ew h (r := .text l w) (m.ex (e1.trans e2)) hp h.eX (.inl ⟨l, w, rfl, rfl, rfl⟩) (fun v H' e r' => k v H' ((e1.trans e2).trans e) r') fun _ _ z => z
  | prog i => exact fun p H2 e2 _ hp => exc_ew h (r := .prog i) (m.ex (e1.trans e2)) hp h.eP (.inr ⟨i, rfl, rfl, rfl⟩) (fun v H' e r' => k v H' ((e1.trans e2).trans e) r') fun _ _ z => z
end
end Nv
set_option Elab.async false
set_option linter.all false
set_option maxRecDepth 100000
set_option maxHeartbeats 4000000
namespace Nv
open PySem PySem.Spec PyProof.Rows L2 StX NvZ LamX
theorem pss_nev {X : Cx} {b : Stmt} {bs : List Stmt} : PSs X (b :: bs) tNever := by
  refine ⟨fun pins s σ H D I h => h.elim⟩
/-- the body of the def -/
theorem gives_heard {X : Cx} {A : Ads} {cG cT g : Addr} {cdg : Value} {q : Str} (B : Blt X.mg) (h : Hx A X.K X.mg cG cT) : NvL.Gives X nHeard "_law_heard" (defScope st_heard) g cdg (defBody st_heard) "ask" q (TTh X.K A) := by
  intro f c' s H Q tl hcall hc ht
  have nd := sc_heard.nd
  refine ⟨tHeard X.K A cG cT f c' q tl, ?_, pr_heard h hc ht⟩
  refine pss_cons (ps_asg (pe_tup (pa_cons pe_non (pa_cons pe_non pa_nil))) (pg_tup (by rfl) (pgs_cons (pg_name (i := 1) nd rfl (by first | exact Or.inl rfl | exact Or.inr rfl)) (pgs_cons (pg_name (i := 2) nd rfl (by first | exact Or.inl rfl | exact Or.inr rfl)) pgs_nil)))) (pss_cons ?_ (pss_cons (ps_if (pt_cmpR op_isN (pv 2) pe_non (nomark _)) (pss_one (ps_ret (pe_lst (pa_cons (pv 1) pa_nil)))) pss_nil)
    (pss_cons (ps_if (pt_val (pe_callB call_isX rfl B.isi bt_isi (pa_cons (pv 2) (pa_cons (pe_globR h.gT) pa_nil)))) (pss_one ps_never) pss_nil)
    (pss_cons (ps_if (pt_val (pe_callB call_isX rfl B.isi bt_isi (pa_cons (pv 2) (pa_cons (pe_globR h.gX) pa_nil)))) (pss_one (ps_ret (pe_tup (pa_cons pe_str (pa_cons (pe_xt (pv 2)) (pa_cons (pe_xt (pv 2)) pa_nil)))))) pss_nil)
    (pss_cons (ps_if (pt_val (pe_callB call_isX rfl B.isi bt_isi (pa_cons (pv 2) (pa_cons (pe_globR h.gP) pa_nil)))) (pss_one (ps_ret (pe_tup (pa_cons pe_str (pa_cons (pe_xt (pv 2)) pa_nil))))) pss_nil)
    pss_nev)))))
  exact ps_try_ax (i := 3) rfl rfl rfl nd rfl rfl ⟨rfl, by decide, .inl h.gG⟩ LamX.takes0 (fun W pn xe tk _ => pss_one (ps_set (i := 1) nd rfl (by first | exact Or.inl rfl | exact Or.inr rfl) (hcall W pn xe (EW W) _ _ tk fun cls d σ' H' hl z => z σ' hl)))
    (fun a pn => pss_one (ps_set (i := 2) nd rfl (by first | exact Or.inl rfl | exact Or.inr rfl) (pv 3)))
end Nv
set_option Elab.async false
set_option linter.all false
set_option maxRecDepth 100000
set_option maxHeartbeats 4000000
namespace Nv
open PySem PySem.Spec PyProof.Rows L2 StX NvZ LamX
/-- `_law_heard(lambda ..)` in a context X -/
theorem hl_of {X : Cx} {A : Ads} {cG cT : Addr} (B : Blt X.mg) (h : Hx A X.K X.mg cG cT) {k : Nat} {c P g : Addr} {T0 : List (Addr × Str)} {fd : FuncData}
    (hg : Gl X "_law_heard") (hm : X.mg "_law_heard" = some (.ref g)) (Fn : FnP X.K "_law_heard" "_law_heard" st_heard g fd)
    (TB : TabB X.base X.mg c P) (hcode : X.env.code = .ref c) (hmT : (P, X.env.qual ++ "<lambda>") ∈ T0) (hu : ∀ p ∈ T0, p.1 = P → p.2 = X.env.qual ++ "<lambda>") (hr : Room (k + 2) X.A)
    {params : Arguments} {body : Expr} {scope : Scope} {t : XK → TE} {p lpos pos : Pos} {ks : List Int} (h1 : params.kw_defaults = []) (h2 : NvL.Dfl params.defaults ks) (h3 : NvL.LamB params body scope ks) (h4 : NvL.LamS3 X.N X.env.scope scope)
    (hb : ∀ (A0 : Around) (o0 : List Env) (s0 : Shared) (H0 : Hp) (E : XK) (f0 c0 : Addr), Room k (A0.deeper (lamEnv X scope s0.heap.objs.size f0 c0)) → PE (lamCx X A0 o0 s0 H0 E scope f0 c0) body (t E)) :
    PE X (.Call (.Name "_law_heard" p) [.Lambda params body scope lpos] [] pos) (tLam T0 (TTh X.K A) t) := by
  obtain ⟨oc, od, dV, kV, doc, pm, an, cdv, ct, osl, rfl, lk, hcd, hD, _⟩ := Fn.ex
  obtain rfl : dV = .none := by
    rcases hD with ⟨_, e⟩ | ⟨z, _⟩
    · exact e
    · exact absurd rfl z
  exact NvL.pe_lamcall3 (T := T0) (TT := TTh X.K A) (x := "_law_heard") (a := "ask") (g := g) hg hm Fn.kp lk hcd
    (Binds.all fun us hl => match us, hl with | [u], _ => by rfl)
    sc_heard rfl (by first | exact Or.inl rfl | exact Or.inr rfl | exact ⟨_, rfl⟩ | decide +kernel) (gives_heard B h) TB hcode hmT hu hr h4 h1 h2 h3 hb
end Nv
set_option Elab.async false
set_option linter.all false
set_option maxRecDepth 100000
set_option maxHeartbeats 4000000
namespace Nv
open PySem PySem.Spec PyProof.Rows L2 StX NvZ LamX
section
variable {A : Ads} {P : Program} {w : World} {K : PySem.W.Frag} {mg : Str → Option Value} {base : Heap}
/-- the law's body reads t_law -/
theorem wt_law (B : Blt mg) (T : Tx A P w K mg) {cG cT : Addr} (h : Hx A K mg cG cT) {k : Nat} {f : Addr} {A' : Around} {outer : List Env} {s : Shared} {H : Hp} {sp_law_pen : Sp} {sp_law_draw : Sp} {sp_law_any_step : Sp} {sp_law_step_line : Sp} {sp_law_bent : Sp} {sp_law_line_wrong : Sp} {sp_read_program : Sp} {sp_program_text : Sp} {sp_law_step_form : Sp} {sp_law_pick : Sp}
  (c_law_pen : Cal P w K mg base CX0 k "_law_pen" ["script"] sp_law_pen) (c_law_draw : Cal P w K mg base CX0 k "_law_draw" ["pen", "most"] sp_law_draw) (c_law_any_step : Cal P w K mg base CX0 k "_law_any_step" ["pen"] sp_law_any_step) (c_law_step_line : Cal P w K mg base CX0 k "_law_step_line" ["step"] sp_law_step_line) (c_law_bent : Cal P w K mg base CX0 k "_law_bent" ["pen", "lines"] sp_law_bent) (c_law_line_wrong : Cal P w K mg base CX0 k "_law_line_wrong" ["words"] sp_law_line_wrong) (c_read_program : Cal P w K mg base (L2.CX P w) k "read_program" ["text"] sp_read_program) (c_program_text : Cal P w K mg base (L2.CX P w) k "program_text" ["program"] sp_program_text) (c_law_step_form : Cal P w K mg base CX0 k "_law_step_form" ["value"] sp_law_step_form) (c_law_pick : Cal P w K mg base CX0 k "_law_pick" ["pen", "some"] sp_law_pick)   {c Pt g : Addr} {fdg : FuncData} (hm : mg "_law_heard" = some (.ref g)) (Fn : FnP K "_law_heard" "_law_heard" st_heard g fdg) (TB : TabB base mg c Pt)
  (hr : Room (k + 2) (A'.deeper (envOfC "law" (defScope st_law) s.heap.objs.size f (.ref c)))) :
  PSs (cxOf CX0 P w K mg base ["script", "pen", "turn", "program", "lines", "lap", "bent", "wrong", "text", "heard", "at", "step", "odd", "bad", "some", "due", "none", "line", "words", "spot", "one"] "law" (defScope st_law) f (.ref c) A' outer s H E0).nox (defBody st_law) (t_law K A [(Pt, "law" ++ ".<locals>." ++ "<lambda>")] (TTh K A) sp_law_pen sp_law_draw sp_law_any_step sp_law_step_line sp_law_bent sp_law_line_wrong sp_read_program sp_program_text sp_law_step_form sp_law_pick) :=
  ws_law (cdv := .ref c) B T c_law_pen c_law_draw c_law_any_step c_law_step_line c_law_bent c_law_line_wrong c_read_program c_program_text c_law_step_form c_law_pick (hr.mono (by omega)) fun h1 h2 h3 h4 hb => hl_of (k := k) (c := c) (P := Pt) B h (by rfl) hm Fn TB (by rfl) (by simp <;> rfl) (fun p hp z => by simp at hp; rw [hp]; rfl) hr h1 h2 h3 h4 hb
end
end Nv
set_option Elab.async false
set_option linter.all false
set_option maxRecDepth 100000
set_option maxHeartbeats 4000000
/-! The plain law of one line: line_wrong answers as the reader does. -/
namespace Nv
open PySem PySem.Spec PyProof.Rows L2 StX NvZ
theorem wl_fig4 : ∀ w ∈ WL, decide (w ∈ figsTo 4) = figB w 0 3 := by decide +kernel
theorem wl_fig3 : ∀ w ∈ WL, decide (w ∈ figsTo 3) = figB w 0 2 := by decide +kernel
theorem wl_fig2 : ∀ w ∈ WL, decide (w ∈ figsTo 2) = figB w 0 1 := by decide +kernel
theorem wl_num : ∀ w ∈ WL, figB w 0 3 = true → istr (num w) = w := by decide +kernel
theorem wl_wd : ∀ w ∈ WL, wdB w = true := by decide +kernel
theorem wl_num3 : ∀ w ∈ WL, figB w 0 3 = true → 0 ≤ num w ∧ num w ≤ 3 := by decide +kernel
theorem wl_sub2 : ∀ w ∈ WL, figB w 0 2 = true → figB w 0 3 = true := by decide +kernel
theorem wl_sub1 : ∀ w ∈ WL, figB w 0 1 = true → figB w 0 3 = true := by decide +kernel
theorem wl_dash : figB "-" 0 3 = false := by decide +kernel
theorem mI : mostI "r" = 3 ∧ mostI "k" = 2 ∧ mostI "f" = 1 ∧ mostI "v" = 3 := by decide +kernel
theorem so : sorts "rk" = (["r", "k"] : List Str) ∧ sorts "rrf" = (["r", "r", "f"] : List Str) ∧ sorts "rfv" = (["r", "f", "v"] : List Str) ∧ sorts "rr" = (["r", "r"] : List Str) ∧ sorts "r" = (["r"] : List Str) ∧ sorts "" = ([] : List Str) := by decide +kernel
def verd (ws : List Str) : Option Nat := match takenW ws with
  | .inl a => some a
  | .inr ds => if ds.length < ws.length then some ds.length else none
theorem tp_none {w0 s : Str} {found : List D} : takePart w0 found s none = none := by
  unfold takePart
  rw [if_neg (by rintro ⟨_, z⟩; cases z), if_neg (by rintro ⟨_, _, z⟩; cases z)]
theorem tp_fig {w0 s w : Str} {found : List D} (hs : s ≠ "v") (hw : w0 ≠ "copy") : takePart w0 found s (some w) = if figB w 0 (mostI s) = true then some (.int (num w)) else none := by
  unfold takePart
  rw [if_neg (fun z => hs z.1), if_neg (fun z => hw z.1)]
theorem tp_v {w0 w : Str} {found : List D} (hw : w0 ≠ "copy") : takePart w0 found "v" (some w) = if w = "-" then some .non else if figB w 0 3 = true then some (.int (num w)) else none := by
  unfold takePart
  by_cases h : w = "-"
  · rw [if_pos ⟨rfl, by rw [h]; rfl⟩, if_pos h]
  · rw [if_neg (fun z => h (Option.some.inj (show some w = some ("-" : Str) from z.2))), if_neg (fun z => hw z.1), if_neg h]
    show (if figB w 0 (mostI "v") = true then _ else _) = _
    rw [mI.2.2.2]
theorem tp_c1 {w : Str} {d : D} : takePart "copy" [d] "r" (some w) = if figB w 0 3 = true then some (.int (num w)) else none := by
  unfold takePart
  rw [if_neg (by rintro ⟨z, _⟩; revert z; decide +kernel), if_neg (by rintro ⟨_, z, _⟩; cases z)]
  show (if figB w 0 (mostI "r") = true then _ else _) = _
  rw [mI.1]
theorem tp_c2 {w v : Str} {d : D} (hv : istr (num v) = v) : takePart "copy" [d, .int (num v)] "r" (some w) = if w = v then none else if figB w 0 3 = true then some (.int (num w)) else none := by
  unfold takePart
  rw [if_neg (by rintro ⟨z, _⟩; revert z; decide +kernel)]
  by_cases h : w = v
  · rw [if_pos ⟨rfl, rfl, by show _ = some (istr (num v)); rw [hv, h]⟩, if_pos h]
  · rw [if_neg (fun z => h (by have := z.2.2; injection this with e; rw [e]; exact hv)), if_neg h]
    show (if figB w 0 (mostI "r") = true then _ else _) = _
    rw [mI.1]

def take (ws : List Str) (w0 : Str) (ss : List Str) : Nat ⊕ List D := takeParts ws w0 ss [.str w0]
def verdT (n : Nat) : Nat ⊕ List D → Option Nat
  | .inl a => some a
  | .inr ds => if ds.length < n then some ds.length else none
theorem verd_of {w f : Str} {r : List Str} (h : formOf w = some f) : verd (w :: r) = verdT (r.length + 1) (takeParts (w :: r) w (sorts f) [.str w]) := by
  have e : takenW (w :: r) = takeParts (w :: r) w (sorts f) [.str w] := by
    show (match formOf w with | none => (.inl 0 : Nat ⊕ List D) | some f => takeParts (w :: r) w (sorts f) [.str w]) = _
    rw [h]
  unfold verd
  rw [e]
  rfl
theorem tpz {ws : List Str} {w0 : Str} {found : List D} : takeParts ws w0 [] found = .inr found := rfl
theorem tps {ws ss : List Str} {w0 s : Str} {found : List D} : takeParts ws w0 (s :: ss) found = match takePart w0 found s ws[found.length]? with
    | none => .inl found.length
    | some d => takeParts ws w0 ss (found ++ [d]) := rfl
theorem bad_fig {ws : List Str} {b : Int} {i : Nat} (h1 : ws.getD 0 "" ≠ "copy") (h2 : ¬ (ws.getD 0 "" = "write" ∧ i = 2)) : badW ws b i = !decide (ws.getD (i + 1) "" ∈ figsTo b.toNat) := by
  unfold badW
  rw [decide_eq_false h1]
  have : (decide (ws.getD 0 "" = "write") && (decide (i = 2) && decide (ws.getD (i + 1) "" = "-"))) = false := by
    rw [← Bool.and_assoc]
    have : (decide (ws.getD 0 "" = "write") && decide (i = 2)) = false := by
      by_cases z : ws.getD 0 "" = "write"
      · rw [decide_eq_false (fun y : i = 2 => h2 ⟨z, y⟩), Bool.and_false]
      · rw [decide_eq_false z, Bool.false_and]
    rw [this, Bool.false_and]
  rw [this]
  simp
end Nv
set_option Elab.async false
set_option linter.all false
set_option maxRecDepth 100000
set_option maxHeartbeats 4000000
namespace Nv
open PySem PySem.Spec PyProof.Rows L2 StX NvZ
theorem bad_eq {w0 : Str} {b : Int} {i : Nat} {r : List Str} {w : Str} (hw : r[i]? = some w) : badW (w0 :: r) b i = ((!(decide (w0 = "write") && (decide (i = 2) && decide (w = "-"))) && !decide (w ∈ figsTo b.toNat)) || (decide (w0 = "copy") && (decide (i = 1) && decide (r.getD 0 "" = r.getD 1 "")))) := by
  have e : (w0 :: r).getD (i + 1) "" = w := by
    show r.getD i "" = w
    rw [List.getD_eq_getElem?_getD, hw]
    rfl
  unfold badW
  rw [e]
  rfl
theorem step_gen {w0 s w : Str} {b : Int} {i : Nat} {r : List Str} {ps : List D} (hr : ∀ x ∈ r, x ∈ WL) (hw : r[i]? = some w) (hp : ps.map partW = r.take i)
    (hv : s = "v" ↔ (w0 = "write" ∧ i = 2)) (hb : ∀ w ∈ WL, decide (w ∈ figsTo b.toNat) = figB w 0 (mostI s)) (hm : ∀ w ∈ WL, figB w 0 (mostI s) = true → figB w 0 3 = true) :
    (badW (w0 :: r) b i = true ∧ takePart w0 (.str w0 :: ps) s (some w) = none) ∨
    (badW (w0 :: r) b i = false ∧ ∃ d, takePart w0 (.str w0 :: ps) s (some w) = some d ∧ partW d = w ∧ partOk s d = true ∧ (w0 = "copy" → ∃ k : Int, d = .int k) ∧ (w0 = "copy" → i = 1 → r.getD 0 "" ≠ r.getD 1 "")) := by
  have hwl : w ∈ WL := hr w (List.mem_of_getElem? hw)
  have hil : i < r.length := (List.getElem?_eq_some_iff.mp hw).1
  have hpl : ps.length = i := by
    have := congrArg List.length hp
    rw [List.length_map, List.length_take] at this
    omega
  rw [bad_eq hw]
  by_cases hA : s = "v" ∧ w = "-"
  · obtain ⟨h1, h2⟩ := hv.mp hA.1
    have hc : w0 ≠ "copy" := by rw [h1]; decide +kernel
    refine .inr ⟨?_, .non, ?_, ?_, ?_, fun z => absurd z hc, fun z => absurd z hc⟩
    · rw [decide_eq_true h1, decide_eq_true h2, decide_eq_true hA.2, decide_eq_false hc]; rfl
    · unfold takePart
      rw [if_pos ⟨hA.1, by rw [hA.2]; rfl⟩]
    · rw [hA.2]; rfl
    · unfold partOk
      rw [decide_eq_true hA.1]; rfl
  · have e1 : (decide (w0 = "write") && (decide (i = 2) && decide (w = "-"))) = false := by
      by_cases h : w0 = "write" ∧ i = 2
      · rw [decide_eq_false (fun z => hA ⟨hv.mpr h, z⟩)]; simp
      · by_cases h0 : w0 = "write"
        · rw [decide_eq_false (fun z : i = 2 => h ⟨h0, z⟩)]; simp
        · rw [decide_eq_false h0]; rfl
    rw [e1, hb w hwl]
    have t1 : ∀ o, takePart w0 (.str w0 :: ps) s (some w) = o ↔ (if w0 = "copy" ∧ ps.length + 1 = 2 ∧ some w = some (partW ((D.str w0 :: ps).getD 1 .non)) then none else if figB w 0 (mostI s) = true then some (.int (num w)) else none) = o := by
      intro o
      unfold takePart
      rw [if_neg (fun z => hA ⟨z.1, Option.some.inj (show some w = some ("-" : Str) from z.2)⟩)]
      exact Iff.rfl
    have g1 : i = 1 → partW ((D.str w0 :: ps).getD 1 .non) = r.getD 0 "" := by
      intro hi
      subst hi
      match ps, r, hpl, hp with
      | [p], a :: r', _, hp =>
        have : partW p = a := by
          have := congrArg List.head? hp
          exact Option.some.inj this
        exact this
      | [p], [], _, hp => cases hp
    have g2' : i = 1 → r.getD 1 "" = w := by
      intro hi
      subst hi
      rw [List.getD_eq_getElem?_getD, hw]
      rfl
    by_cases hB : w0 = "copy" ∧ i = 1 ∧ r.getD 0 "" = r.getD 1 ""
    · obtain ⟨h1, h2, h3⟩ := hB
      refine .inl ⟨?_, ?_⟩
      · rw [decide_eq_true h1, decide_eq_true h2, decide_eq_true h3]; simp
      · rw [t1, if_pos ⟨h1, by omega, by rw [g1 h2, h3, g2' h2]⟩]
    · have e2 : (decide (w0 = "copy") && (decide (i = 1) && decide (r.getD 0 "" = r.getD 1 ""))) = false := by
        by_cases h0 : w0 = "copy"
        · by_cases h1 : i = 1
          · rw [decide_eq_false (fun z => hB ⟨h0, h1, z⟩)]; simp
          · rw [decide_eq_false h1]; simp
        · rw [decide_eq_false h0]; rfl
      have n2 : ¬ (w0 = "copy" ∧ ps.length + 1 = 2 ∧ some w = some (partW ((D.str w0 :: ps).getD 1 .non))) := by
        rintro ⟨z1, z2, z3⟩
        have hi : i = 1 := by omega
        refine hB ⟨z1, hi, ?_⟩
        rw [g2' hi, ← g1 hi]
        exact (Option.some.inj z3).symm
      rw [e2]
      cases hf : figB w 0 (mostI s) with
      | false =>
        refine .inl ⟨rfl, ?_⟩
        rw [t1, if_neg n2, hf]
        rfl
      | true =>
        refine .inr ⟨rfl, .int (num w), ?_, wl_num w hwl (hm w hwl hf), ?_, fun _ => ⟨_, rfl⟩, fun z1 z2 z3 => hB ⟨z1, z2, z3⟩⟩
        · rw [t1, if_neg n2, hf]
          rfl
        · obtain ⟨a, b⟩ := fig_range hf
          unfold partOk
          have : withinD (.int (num w)) 0 (mostI s) = true := by
            show (decide _ && decide _) = true
            simp [a, b]
          rw [this, Bool.or_true]
end Nv
set_option Elab.async false
set_option linter.all false
set_option maxRecDepth 100000
set_option maxHeartbeats 4000000
namespace Nv
open PySem PySem.Spec PyProof.Rows L2 StX NvZ
def SbOk (w0 : Str) (i : Nat) (sb : List (Str × Int)) : Prop := ∀ (j : Nat) (s : Str) (b : Int), sb[j]? = some (s, b) → (s = "v" ↔ (w0 = "write" ∧ i + j = 2)) ∧ (∀ w ∈ WL, decide (w ∈ figsTo b.toNat) = figB w 0 (mostI s)) ∧ ∀ w ∈ WL, figB w 0 (mostI s) = true → figB w 0 3 = true
structure Took (w0 : Str) (r : List Str) (i : Nat) (ps : List D) (sb : List (Str × Int)) (ds qs : List D) : Prop where
  ds : ds = .str w0 :: (ps ++ qs)
  len : qs.length = sb.length
  back : (ps ++ qs).map partW = r.take (i + sb.length)
  le : i + sb.length ≤ r.length
  ok : (((sb.map (·.1)).zip qs).all fun p => partOk p.1 p.2) = true
  isI : w0 = "copy" → ∀ d ∈ qs, ∃ k : Int, d = .int k
  ne : w0 = "copy" → i ≤ 1 → 1 < i + sb.length → r.getD 0 "" ≠ r.getD 1 ""
theorem loop_gen {w0 : Str} {r : List Str} {total : Nat} (hr : ∀ x ∈ r, x ∈ WL) : ∀ (sb : List (Str × Int)) (i : Nat) (ps : List D), ps.length = i → i ≤ r.length → total = i + sb.length → ps.map partW = r.take i → SbOk w0 i sb →
    loopW (w0 :: r) total (sb.map (·.2)) i = verdT (r.length + 1) (takeParts (w0 :: r) w0 (sb.map (·.1)) (.str w0 :: ps)) ∧ ∀ ds, takeParts (w0 :: r) w0 (sb.map (·.1)) (.str w0 :: ps) = .inr ds → ∃ qs, Took w0 r i ps sb ds qs
  | [], i, ps, hl, hi, ht, hp, hs => by
    refine ⟨?_, fun ds e => ⟨[], ?_, rfl, ?_, hi, rfl, (fun _ _ z => by cases z), (fun _ a b => ?_)⟩⟩
    · show (if total + 1 < r.length + 1 then _ else _) = (if ps.length + 1 < r.length + 1 then some (ps.length + 1) else none)
      have ht' : total = i := ht
      rw [hl, ht']
    · have : (D.str w0 :: ps) = ds := by injection e
      rw [List.append_nil]; exact this.symm
    · rw [List.append_nil]; exact hp
    · have : 1 < i := b
      omega
  | (s, b) :: sb, i, ps, hl, hi, ht, hp, hs => by
    have el : loopW (w0 :: r) total (((s, b) :: sb).map (·.2)) i = if r.length + 1 ≤ i + 1 then some (i + 1) else if badW (w0 :: r) b i = true then some (i + 1) else loopW (w0 :: r) total (sb.map (·.2)) (i + 1) := rfl
    have et : takeParts (w0 :: r) w0 (((s, b) :: sb).map (·.1)) (.str w0 :: ps) = match takePart w0 (.str w0 :: ps) s r[ps.length]? with
      | none => .inl (ps.length + 1)
      | some d => takeParts (w0 :: r) w0 (sb.map (·.1)) (.str w0 :: (ps ++ [d])) := rfl
    rw [el, et, hl]
    obtain ⟨hv, hb, hm⟩ := hs 0 s b rfl
    by_cases hlen : r.length ≤ i
    · have : r[i]? = none := List.getElem?_eq_none hlen
      rw [this, tp_none, if_pos (by omega)]
      exact ⟨rfl, fun ds e => by cases e⟩
    · have hil : i < r.length := by omega
      rw [if_neg (by omega)]
      have hw : r[i]? = some r[i] := List.getElem?_eq_getElem hil
      rcases step_gen hr hw hp hv hb hm with ⟨h1, h2⟩ | ⟨h1, d, h2, h3, h4, h5, h6⟩
      · rw [hw, h2, if_pos h1]
        exact ⟨rfl, fun ds e => by cases e⟩
      · rw [hw, h2, h1, if_neg Bool.false_ne_true]
        have hp' : (ps ++ [d]).map partW = r.take (i + 1) := by
          rw [List.map_append, hp, List.take_add_one, hw]
          show _ ++ [partW d] = _
          rw [h3]; rfl
        have hrec := loop_gen (total := total) hr sb (i + 1) (ps ++ [d]) (by rw [List.length_append, hl]; rfl) (by omega) (by rw [ht]; show i + (sb.length + 1) = _; omega) hp' (fun j s b hj => by
          obtain ⟨a, c, e⟩ := hs (j + 1) s b hj
          exact ⟨by rw [a]; constructor <;> (rintro ⟨x, y⟩; exact ⟨x, by omega⟩), c, e⟩)
        refine ⟨hrec.1, fun ds e => ?_⟩
        obtain ⟨qs, q⟩ := hrec.2 ds e
        refine ⟨d :: qs, ?_, ?_, ?_, ?_, ?_, ?_, ?_⟩
        · rw [q.ds, List.append_assoc]; rfl
        · show qs.length + 1 = sb.length + 1
          rw [q.len]
        · have := q.back
          rw [List.append_assoc] at this
          rw [show i + ((s, b) :: sb).length = i + 1 + sb.length by show i + (sb.length + 1) = _; omega]
          exact this
        · have := q.le
          show i + (sb.length + 1) ≤ _
          omega
        · show (partOk s d && _) = true
          rw [h4, Bool.true_and]
          exact q.ok
        · intro z x hx
          rcases List.mem_cons.mp hx with rfl | hx
          · exact h5 z
          · exact q.isI z x hx
        · intro z a c
          by_cases h1 : i = 1
          · exact h6 z h1
          · exact q.ne z (by omega) (by have : 1 < i + (sb.length + 1) := c; omega)
end Nv
set_option Elab.async false
set_option linter.all false
set_option maxRecDepth 100000
set_option maxHeartbeats 4000000
namespace Nv
open PySem PySem.Spec PyProof.Rows L2 StX NvZ
theorem sb_of {w0 : Str} {sb : List (Str × Int)} (h : ∀ p ∈ sb.zipIdx, (p.1.1 = "v" ↔ (w0 = "write" ∧ p.2 = 2)) ∧ ((p.1.2 = 4 ∧ mostI p.1.1 = 3) ∨ (p.1.2 = 3 ∧ mostI p.1.1 = 2) ∨ (p.1.2 = 2 ∧ mostI p.1.1 = 1))) : SbOk w0 0 sb := by
  intro j s b hj
  have hm : ((s, b), j) ∈ sb.zipIdx := by
    rw [List.mem_iff_getElem?]
    exact ⟨j, by rw [List.getElem?_zipIdx, hj]; simp⟩
  obtain ⟨h1, h2⟩ := h _ hm
  refine ⟨by rw [Nat.zero_add]; exact h1, ?_⟩
  rcases h2 with ⟨e1, e2⟩ | ⟨e1, e2⟩ | ⟨e1, e2⟩
  · have e1' : b = 4 := e1
    have e2' : mostI s = 3 := e2
    rw [e1', e2']
    exact ⟨wl_fig4, fun _ _ z => z⟩
  · have e1' : b = 3 := e1
    have e2' : mostI s = 2 := e2
    rw [e1', e2']
    exact ⟨wl_fig3, wl_sub2⟩
  · have e1' : b = 2 := e1
    have e2' : mostI s = 1 := e2
    rw [e1', e2']
    exact ⟨wl_fig2, wl_sub1⟩
def LineLaw (ws : List Str) : Prop := lineW ws = verd ws ∧ ∀ ds, takenW ws = .inr ds → ds.length = ws.length → wordsOf ds = ws ∧ stepL ds = true
theorem line_form {w0 f : Str} {r : List Str} {sb : List (Str × Int)} (hr : ∀ x ∈ r, x ∈ WL) (hf : formOf w0 = some f) (hb : boundsOf w0 = some (sb.map (·.2))) (hs : sorts f = sb.map (·.1)) (hl : f.length = sb.length) (ok : SbOk w0 0 sb) (hc : w0 = "copy" → sb.length = 2) : LineLaw (w0 :: r) := by
  have g := loop_gen (total := sb.length) hr sb 0 [] rfl (Nat.zero_le _) (by omega) rfl ok
  have e1 : lineW (w0 :: r) = loopW (w0 :: r) sb.length (sb.map (·.2)) 0 := by
    show (match boundsOf w0 with | none => some 0 | some bs => loopW (w0 :: r) bs.length bs 0) = _
    rw [hb]
    show loopW (w0 :: r) (sb.map (·.2)).length (sb.map (·.2)) 0 = _
    rw [List.length_map]
  have e2 : takenW (w0 :: r) = takeParts (w0 :: r) w0 (sb.map (·.1)) [.str w0] := by
    show (match formOf w0 with | none => (.inl 0 : Nat ⊕ List D) | some f => takeParts (w0 :: r) w0 (sorts f) [.str w0]) = _
    rw [hf, ← hs]
  refine ⟨?_, fun ds ht hlen => ?_⟩
  · rw [e1, g.1]
    unfold verd
    rw [e2]
    rfl
  · rw [e2] at ht
    obtain ⟨qs, q⟩ := g.2 ds ht
    have hds : ds = .str w0 :: qs := q.ds
    have hql : qs.length = r.length := by
      rw [hds] at hlen
      exact Nat.succ.inj hlen
    have hback : qs.map partW = r := by
      have := q.back
      rw [List.nil_append, Nat.zero_add, ← q.len, hql, List.take_length] at this
      exact this
    refine ⟨?_, ?_⟩
    · rw [hds]
      show w0 :: qs.map partW = _
      rw [hback]
    · rw [hds]
      show (match formOf w0 with
        | some f => decide (qs.length = f.length) && (((sorts f).zip qs).all fun p => partOk p.1 p.2) && (!decide (w0 = "copy") || !eqD (qs.getD 0 .non) (qs.getD 1 .non))
        | none => false) = true
      rw [hf]
      show (decide (qs.length = f.length) && (((sorts f).zip qs).all fun p => partOk p.1 p.2) && (!decide (w0 = "copy") || !eqD (qs.getD 0 .non) (qs.getD 1 .non))) = true
      rw [hs, q.ok, decide_eq_true (by rw [hl, q.len]), Bool.true_and, Bool.true_and]
      by_cases h : w0 = "copy"
      · have h2 := hc h
        have hql2 : qs.length = 2 := by rw [q.len, h2]
        match qs, hql2, hback, q.isI h with
        | [a, b], _, hback, hi =>
          obtain ⟨x, rfl⟩ := hi a (by simp)
          obtain ⟨y, rfl⟩ := hi b (by simp)
          have ne := q.ne h (Nat.zero_le _) (by omega)
          rw [← hback] at ne
          have hxy : x ≠ y := fun z => ne (by rw [z]; rfl)
          show (_ || !eqD (.int x) (.int y)) = true
          rw [eqD_int, decide_eq_false hxy, Bool.not_false, Bool.or_true]
      · rw [decide_eq_false h]; rfl
theorem line_law {ws : List Str} (h0 : ws ≠ []) (hw : ∀ w ∈ ws, w ∈ WL) : LineLaw ws := by
  match ws, h0 with
  | w0 :: r, _ =>
    have hr : ∀ x ∈ r, x ∈ WL := fun x h => hw x (List.mem_cons_of_mem _ h)
    rcases word_cases w0 with ⟨h, hf, hb⟩ | ⟨h, hf, hb⟩ | ⟨h, hf, hb⟩ | ⟨h, hf, hb⟩ | ⟨h, hf, hb⟩ | ⟨h, hf, hb⟩ | ⟨hf, hb, _⟩
    · subst h; exact line_form (sb := [("r", 4), ("k", 3)]) hr hf hb so.1 (by decide +kernel) (sb_of (by decide +kernel)) (by decide +kernel)
    · subst h; exact line_form (sb := [("r", 4), ("r", 4), ("f", 2)]) hr hf hb so.2.1 (by decide +kernel) (sb_of (by decide +kernel)) (by decide +kernel)
    · subst h; exact line_form (sb := [("r", 4), ("f", 2), ("v", 4)]) hr hf hb so.2.2.1 (by decide +kernel) (sb_of (by decide +kernel)) (by decide +kernel)
    · subst h; exact line_form (sb := [("r", 4), ("r", 4)]) hr hf hb so.2.2.2.1 (by decide +kernel) (sb_of (by decide +kernel)) (by decide +kernel)
    · subst h; exact line_form (sb := [("r", 4)]) hr hf hb so.2.2.2.2.1 (by decide +kernel) (sb_of (by decide +kernel)) (by decide +kernel)
    · subst h; exact line_form (sb := []) hr hf hb so.2.2.2.2.2 (by decide +kernel) (sb_of (by decide +kernel)) (by decide +kernel)
    · have e1 : lineW (w0 :: r) = some 0 := by
        show (match boundsOf w0 with | none => some 0 | some bs => loopW (w0 :: r) bs.length bs 0) = _
        rw [hb]
      have e2 : takenW (w0 :: r) = .inl 0 := by
        show (match formOf w0 with | none => (.inl 0 : Nat ⊕ List D) | some f => takeParts (w0 :: r) w0 (sorts f) [.str w0]) = _
        rw [hf]
      refine ⟨?_, fun ds ht => by rw [e2] at ht; cases ht⟩
      rw [e1]
      unfold verd
      rw [e2]
end Nv
set_option Elab.async false
set_option linter.all false
set_option maxRecDepth 100000
set_option maxHeartbeats 4000000
namespace Nv
open PySem PySem.Spec PyProof.Rows L2 StX NvZ
def textL (ls : List (List Str)) : Str := Txt.join "\n" (ls.map fun ws => Txt.join " " ws)
theorem wl_chars : ∀ w ∈ WL, ∀ c ∈ TL.tl w, c < 256 ∧ c ≠ 10 ∧ c ≠ 32 := by decide +kernel
theorem nl_tl : TL.tl ("\n" : Str) = 10 :: [] := by decide +kernel
theorem sp_tl : TL.tl (" " : Str) = 32 :: [] := by decide +kernel
theorem mem_joinL {c : Nat} {S : List Nat} : ∀ {ps : List (List Nat)}, c ∈ TL.joinL S ps → c ∈ S ∨ ∃ p ∈ ps, c ∈ p
  | [], h => by cases h
  | [p], h => .inr ⟨p, by simp, h⟩
  | p :: q :: r, h => by
    have h' : c ∈ p ++ (S ++ TL.joinL S (q :: r)) := h
    rw [List.mem_append, List.mem_append] at h'
    rcases h' with h | h | h
    · exact .inr ⟨p, by simp, h⟩
    · exact .inl h
    · rcases mem_joinL h with h | ⟨x, hx, h⟩
      · exact .inl h
      · exact .inr ⟨x, List.mem_cons_of_mem _ hx, h⟩
theorem mem_join {c : Nat} {y : Str} {ps : List Str} (h : c ∈ TL.tl (Txt.join y ps)) : c ∈ TL.tl y ∨ ∃ p ∈ ps, c ∈ TL.tl p := by
  rw [TL.join_eq, TL.tl_join] at h
  rcases mem_joinL h with h | ⟨p, hp, h⟩
  · exact .inl h
  · obtain ⟨z, hz, rfl⟩ := List.mem_map.mp hp
    exact .inr ⟨z, hz, h⟩
theorem line_chars {ws : List Str} (hw : ∀ w ∈ ws, w ∈ WL) : ∀ c ∈ TL.tl (Txt.join " " ws), c < 256 ∧ c ≠ 10 := fun c h => by
  rcases mem_join h with h | ⟨p, hp, h⟩
  · rw [sp_tl] at h
    have : c = 32 := by simpa using h
    rw [this]; decide
  · exact ⟨(wl_chars p (hw p hp) c h).1, (wl_chars p (hw p hp) c h).2.1⟩
section
variable {N M : Nat} {ls : List (List Str)}
theorem split_text (L : LinesOk N M ls) : Txt.split (textL ls) "\n" = ls.map fun ws => Txt.join " " ws := by
  refine TL.split_join nl_tl (by decide +kernel) (fun z => L.ne (List.map_eq_nil_iff.mp z)) fun p hp h => ?_
  obtain ⟨ws, hws, rfl⟩ := List.mem_map.mp hp
  exact (line_chars (L.each ws hws).2.2 10 h).2 rfl
theorem split_line {ws : List Str} (h0 : ws ≠ []) (hw : ∀ w ∈ ws, w ∈ WL) : Txt.split (Txt.join " " ws) " " = ws :=
  TL.split_join sp_tl (by decide +kernel) h0 fun p hp h => (wl_chars p (hw p hp) 32 h).2.2 rfl
theorem lines_back (L : LinesOk N M ls) : linesOf (textL ls) = ls := by
  unfold linesOf
  rw [split_text L, List.map_map]
  conv => rhs; rw [← List.map_id ls]
  refine List.map_congr_left fun ws hws => ?_
  exact split_line (L.each ws hws).1 (L.each ws hws).2.2
theorem line_len {ws : List Str} (hw : ∀ w ∈ ws, w ∈ WL) : (Txt.join " " ws).length ≤ ws.length * 6 := by
  have h := join_len " " ws
  have h3 := sum_le (n := 5) (l := ws) (g := fun x : Str => x.length) fun w h => (wl_ok w (hw w h)).2
  have e : (" " : Str).length = 1 := by decide +kernel
  rw [e] at h
  omega
theorem txt_ok (L : LinesOk N M ls) (hN : N ≤ 30) (hM : M ≤ 30) : TxtOk (textL ls) := by
  have hline : ∀ l ∈ (ls.map fun ws => Txt.join " " ws), l.length ≤ 180 := fun l hl => by
    obtain ⟨ws, hws, rfl⟩ := List.mem_map.mp hl
    have := line_len (L.each ws hws).2.2
    have := (L.each ws hws).2.1
    show (Txt.join " " ws).length ≤ 180
    omega
  have hll := L.len
  refine ⟨?_, ?_, ?_, ?_, ?_⟩
  · show (textL ls).cps.all (· < 0x110000) = true
    rw [Array.all_eq_true_iff_forall_mem]
    intro c hc
    have hc' : c ∈ TL.tl (textL ls) := Array.mem_toList_iff.mpr hc
    have : c < 256 := by
      rcases mem_join hc' with h | ⟨p, hp, h⟩
      · rw [nl_tl] at h
        have : c = 10 := by simpa using h
        omega
      · obtain ⟨ws, hws, rfl⟩ := List.mem_map.mp hp
        exact (line_chars (L.each ws hws).2.2 c h).1
    exact decide_eq_true (by omega)
  · have h := join_len "\n" (ls.map fun ws => Txt.join " " ws)
    have h3 := sum_le (n := 180) (g := fun x : Str => x.length) hline
    have e : ("\n" : Str).length = 1 := by decide +kernel
    rw [e, List.length_map] at h
    rw [List.length_map] at h3
    show (Txt.join "\n" _).length ≤ 1000000
    omega
  · rw [split_text L, List.length_map]; omega
  · rw [split_text L]
    intro l hl
    have := hline l hl
    omega
  · rw [lines_back L]
    intro ws hws
    obtain ⟨_, b, c⟩ := L.each ws hws
    exact ⟨by omega, fun w hw => wl_wd w (c w hw)⟩
theorem textL_end (h : ls ≠ []) : textL (ls ++ [[("" : Str)]]) = textL ls ++ "\n" := by
  have key : ∀ ps : List (List Nat), ps ≠ [] → TL.joinL [10] (ps ++ [[]]) = TL.joinL [10] ps ++ [10] := by
    intro ps
    induction ps with
    | nil => intro h; exact absurd rfl h
    | cons p ps ih =>
      intro _
      cases ps with
      | nil => show p ++ ([10] ++ []) = p ++ [10]; simp
      | cons q r =>
        show p ++ ([10] ++ TL.joinL [10] ((q :: r) ++ [[]])) = (p ++ ([10] ++ TL.joinL [10] (q :: r))) ++ [10]
        rw [ih (by simp)]
        simp
  apply TL.ext_tl
  rw [TL.tl_append, nl_tl]
  unfold textL
  rw [TL.join_eq, TL.join_eq, TL.tl_join, TL.tl_join, nl_tl, List.map_append, List.map_append]
  exact key _ (fun z => h (List.map_eq_nil_iff.mp (List.map_eq_nil_iff.mp z)))
end
end Nv
set_option Elab.async false
set_option linter.all false
set_option maxRecDepth 100000
set_option maxHeartbeats 4000000
namespace Nv
open PySem PySem.Spec PyProof.Rows L2 StX NvZ
def wrongsFrom : List (List Str) → Nat → List (Nat × Nat)
  | [], _ => []
  | ws :: rest, l => match lineW ws with
    | some k => (l, k) :: wrongsFrom rest (l + 1)
    | none => wrongsFrom rest (l + 1)
def LsOk (ls : List (List Str)) : Prop := ∀ ws ∈ ls, ws ≠ [] ∧ ∀ w ∈ ws, w ∈ WL
structure Read (ls : List (List Str)) (dss : List (List D)) : Prop where
  back : dss.map wordsOf = ls
  ok : ∀ ds ∈ dss, stepL ds = true
theorem read_law : ∀ (ls : List (List Str)) (l : Nat), LsOk ls → match wrongsFrom ls l with
    | x :: _ => readFrom ls l = .inl x
    | [] => ∃ dss, readFrom ls l = .inr dss ∧ Read ls dss
  | [], l, _ => ⟨[], rfl, rfl, fun _ h => by cases h⟩
  | ws :: rest, l, h => by
    obtain ⟨h0, hw⟩ := h ws (List.mem_cons_self ..)
    obtain ⟨e1, e2⟩ := line_law h0 hw
    have ih := read_law rest (l + 1) fun x hx => h x (List.mem_cons_of_mem _ hx)
    have ew : wrongsFrom (ws :: rest) l = match lineW ws with
      | some k => (l, k) :: wrongsFrom rest (l + 1)
      | none => wrongsFrom rest (l + 1) := rfl
    have er : readFrom (ws :: rest) l = match takenW ws with
      | .inl a => .inl (l, a)
      | .inr ds => if ds.length < ws.length then .inl (l, ds.length) else match readFrom rest (l + 1) with
        | .inl x => .inl x
        | .inr dss => .inr (ds :: dss) := rfl
    rw [ew, er, e1]
    unfold verd
    cases ht : takenW ws with
    | inl a => exact rfl
    | inr ds =>
      by_cases hl : ds.length < ws.length
      · simp only [if_pos hl]
      · simp only [if_neg hl]
        have hle := taken_len ht
        obtain ⟨b1, b2⟩ := e2 ds ht (by omega)
        cases hz : wrongsFrom rest (l + 1) with
        | cons x t =>
          rw [hz] at ih
          replace ih : readFrom rest (l + 1) = .inl x := ih
          show _ = Sum.inl x
          rw [ih]
        | nil =>
          rw [hz] at ih
          obtain ⟨dss, i1, i2⟩ := ih
          refine ⟨ds :: dss, by rw [i1], ?_, ?_⟩
          · show wordsOf ds :: dss.map wordsOf = _
            rw [b1, i2.back]
          · intro x hx
            rcases List.mem_cons.mp hx with rfl | hx
            · exact b2
            · exact i2.ok x hx
theorem read_text {ls : List (List Str)} {dss : List (List D)} (h : Read ls dss) (h0 : ls ≠ []) : progText (dss.map D.tup) = textL ls := by
  match dss, h with
  | [], h => exact absurd h.back.symm h0
  | ds :: dss, h =>
    show Txt.join "\n" ((D.tup ds :: dss.map D.tup).map fun d => textOf (itemsOfD d)) = _
    unfold textL
    rw [← h.back]
    congr 1
    show textOf ds :: (dss.map D.tup).map (fun d => textOf (itemsOfD d)) = textOf ds :: (dss.map wordsOf).map fun ws => Txt.join " " ws
    rw [List.map_map, List.map_map]
    rfl
theorem LinesOk.lsOk {N M : Nat} {ls : List (List Str)} (L : LinesOk N M ls) : LsOk ls := fun ws h => ⟨(L.each ws h).1, (L.each ws h).2.2⟩
/-- the words of a step -/
theorem words_wl {ds : List D} (h : stepL ds = true) : wordsOf ds ≠ [] ∧ (wordsOf ds).length ≤ 4 ∧ ∀ w ∈ wordsOf ds, w ∈ WL := by
  obtain ⟨w, f, ps, rfl, hf, hl, ha⟩ := stepL_inv h
  obtain ⟨_, h2, _⟩ := words_short h
  refine ⟨(fun z => by cases z), h2, fun x hx => ?_⟩
  have hx' : x ∈ w :: ps.map partW := hx
  rcases List.mem_cons.mp hx' with e | e
  · rcases form_cases hf with ⟨rfl, _⟩ | ⟨rfl, _⟩ | ⟨rfl, _⟩ | ⟨rfl, _⟩ | ⟨rfl, _⟩ | ⟨rfl, _⟩ <;> rw [e] <;> decide +kernel
  · obtain ⟨p, hp, rfl⟩ := List.mem_map.mp e
    have hlen : (sorts f).length = ps.length := by
      rw [hl]
      rcases form_cases hf with ⟨_, rfl⟩ | ⟨_, rfl⟩ | ⟨_, rfl⟩ | ⟨_, rfl⟩ | ⟨_, rfl⟩ | ⟨_, rfl⟩ <;> decide +kernel
    have hz : ∃ s, (s, p) ∈ (sorts f).zip ps := by
      obtain ⟨j, hj, rfl⟩ := List.getElem_of_mem hp
      have hj' : j < (sorts f).length := by omega
      refine ⟨(sorts f)[j], ?_⟩
      rw [List.mem_iff_getElem]
      exact ⟨j, by rw [List.length_zip]; omega, by simp⟩
    obtain ⟨s, hs⟩ := hz
    have := List.all_eq_true.mp ha _ hs
    rcases partOk_is this with rfl | ⟨i, rfl, i0, i3⟩
    · decide +kernel
    · have : i = 0 ∨ i = 1 ∨ i = 2 ∨ i = 3 := by omega
      rcases this with rfl | rfl | rfl | rfl <;> decide +kernel
theorem steps_lines {dss : List (List D)} {N : Nat} (h0 : dss ≠ []) (hl : dss.length ≤ N) (h : ∀ ds ∈ dss, stepL ds = true) : LinesOk N 4 (dss.map wordsOf) := by
  refine ⟨fun z => h0 (List.map_eq_nil_iff.mp z), by rw [List.length_map]; exact hl, fun ws hw => ?_⟩
  obtain ⟨ds, hd, rfl⟩ := List.mem_map.mp hw
  exact words_wl (h ds hd)
theorem read_dash : linesOf "-" = [[("-" : Str)]] ∧ textL [[("-" : Str)]] = "-" := by decide +kernel
theorem text_dash {N M : Nat} {ls : List (List Str)} (L : LinesOk N M ls) (h : textL ls = "-") : ls = [[("-" : Str)]] := by
  have := lines_back L
  rw [h, read_dash.1] at this
  exact this.symm
end Nv
set_option Elab.async false
set_option linter.all false
set_option maxRecDepth 100000
set_option maxHeartbeats 400000
/-! What the law's lambdas do. -/
namespace Nv
open PySem PySem.Spec PyProof.Rows L2 StX NvZ LamX
def resRead : D → Res
  | .str t => if t = "-" then .val (.tup []) else match readFrom (linesOf t) 0 with
    | .inl (l, a) => .text l a
    | .inr dss => .val (.tup (dss.map D.tup))
  | _ => .text (0 : Nat) (0 : Nat)
section
variable {K : PySem.W.Frag} {A : Ads} {S : Addr → Prop} {σ : L2.St} {H H' : Hp}
theorem up_none {H H1 : Hp} {p : Addr} (e : Ex H H1) (h : H1 p = none) : H p = none := by
  cases z : H p with
  | none => rfl
  | some o => rw [e _ _ z] at h; cases h
theorem does_read {te : XK → TE} {d : D} (m : Mem S H) (h : ∀ E, EvD K S (te E) σ H d) (hin : textIn d) : Does K A S H (fun E H' Q' => tCall (spRead K A) [] E (tCons (te E) tNil) σ H' Q') (resRead d) := by
  intro Q E k
  refine h E H (Evl.Ex.refl _) _ fun v H1 e1 r1 => ?_
  refine ⟨S, [d], rfl, m.ex e1, .cons r1 .nil, ⟨d, rfl, hin⟩, ?_⟩
  show (match readD A d with
    | .inr d => ∀ v H', Ex H1 H' → Rp K S H' v d → Q v H'
    | .inl x => ∀ p H', Ex H1 H' → H1 p = none → H' p = some (.xd x.2) → E (.ref x.1) (some p) H')
  cases d with
  | str t =>
    unfold readD
    unfold resRead at k
    by_cases ht : t = "-"
    · simp only [if_pos ht] at k ⊢
      exact fun v H2 e2 r2 => k v H2 (e1.trans e2) r2
    · simp only [if_neg ht] at k ⊢
      cases hr : readFrom (linesOf t) 0 with
      | inl x =>
        obtain ⟨l, a⟩ := x
        rw [hr] at k
        exact fun p H2 e2 hp h2 => k p H2 (e1.trans e2) (up_none e1 hp) h2
      | inr dss =>
        rw [hr] at k
        exact fun v H2 e2 r2 => k v H2 (e1.trans e2) r2
  | ins C => exact hin.elim
  | non => exact fun p H2 e2 hp h2 => k p H2 (e1.trans e2) (up_none e1 hp) h2
  | bl b => exact fun p H2 e2 hp h2 => k p H2 (e1.trans e2) (up_none e1 hp) h2
  | int b => exact fun p H2 e2 hp h2 => k p H2 (e1.trans e2) (up_none e1 hp) h2
  | lst b => exact fun p H2 e2 hp h2 => k p H2 (e1.trans e2) (up_none e1 hp) h2
  | tup b => exact fun p H2 e2 hp h2 => k p H2 (e1.trans e2) (up_none e1 hp) h2
  | dic => exact fun p H2 e2 hp h2 => k p H2 (e1.trans e2) (up_none e1 hp) h2
end
end Nv
set_option Elab.async false
set_option linter.all false
set_option maxRecDepth 100000
set_option maxHeartbeats 400000
/-! What the law's lambdas do: program_text. -/
namespace Nv
open PySem PySem.Spec PyProof.Rows L2 StX NvZ LamX
def resText (d : D) : Res :=
  if d.isLT = true then (match badAt (itemsOfD d) with
    | some i => .prog i
    | none => .val (.str (progText (itemsOfD (fixD d)))))
  else .prog (-1)
section
variable {K : PySem.W.Frag} {A : Ads} {S : Addr → Prop} {σ : L2.St} {H H' : Hp}
theorem does_text {te : XK → TE} {d : D} (m : Mem S H) (h : ∀ E, EvD K S (te E) σ H d) (hin : progIn d = true) : Does K A S H (fun E H' Q' => tCall (spProgText K A) [] E (tCons (te E) tNil) σ H' Q') (resText d) := by
  intro Q E k
  refine h E H (Evl.Ex.refl _) _ fun v H1 e1 r1 => ?_
  refine ⟨S, [d], rfl, m.ex e1, .cons r1 .nil, ⟨d, rfl, hin⟩, ?_⟩
  show (match textD A d with
    | .inr d => ∀ v H', Ex H1 H' → Rp K S H' v d → Q v H'
    | .inl x => ∀ p H', Ex H1 H' → H1 p = none → H' p = some (.xd x.2) → E (.ref x.1) (some p) H')
  unfold textD needD
  unfold resText at k
  by_cases ht : d.isLT = true
  · simp only [if_pos ht] at k ⊢
    cases hb : badAt (itemsOfD d) with
    | some i =>
      rw [hb] at k
      exact fun p H2 e2 hp h2 => k p H2 (e1.trans e2) (up_none e1 hp) h2
    | none =>
      rw [hb] at k
      exact fun v H2 e2 r2 => k v H2 (e1.trans e2) r2
  · simp only [if_neg ht] at k ⊢
    exact fun p H2 e2 hp h2 => k p H2 (e1.trans e2) (up_none e1 hp) h2
end
end Nv
set_option Elab.async false
set_option linter.all false
set_option maxRecDepth 100000
set_option maxHeartbeats 400000
/-! The law's state: data stay while tables turn, the table stays while the pen turns. -/
namespace Nv
open PySem PySem.Spec PyProof.Rows L2 StX NvZ LamX
section
variable {K : PySem.W.Frag} {S : Addr → Prop} {H H' : Hp}
theorem rd_monoN {a : Addr} {u : HO} (e : ExtN H H') (hu : ∀ ps, u ≠ .tbl ps) (h : Rd H a u) : Rd H' a u := by
  rcases h with h | ⟨o, h⟩
  · exact .inl (e _ _ h hu)
  · exact .inr ⟨o, e _ _ h fun _ z => by cases z⟩
theorem ST.monoN {a : Addr} {xs : List V} (e : ExtN H H') (h : ST K S H a xs) : ST K S H' a xs := by
  rcases h with ⟨h, n⟩ | h
  · exact .inl ⟨rd_monoN e (fun _ z => by cases z) h, n⟩
  · exact .inr h
mutual
theorem Rp.monoN (e : ExtN H H') : ∀ {d : D} {v : V}, Rp K S H v d → Rp K S H' v d
  | .non, _, h => by cases h; exact .non
  | .bl b, _, h => by cases h; exact .bl b
  | .int i, _, h => by cases h; exact .int i
  | .str x, _, h => by cases h; exact .str x
  | .lst ds, _, h => by
    cases h with
    | lst h1 h2 => exact .lst ⟨e _ _ h1.1 (fun _ z => by cases z), h1.2⟩ (RpA.monoN e h2)
  | .tup ds, _, h => by
    cases h with
    | tup h1 h2 => exact .tup (h1.monoN e) (RpA.monoN e h2)
  | .dic, _, h => by
    cases h with
    | dic h1 h2 => exact .dic (e _ _ h1 fun _ z => by cases z) h2
  | .ins C, _, h => by
    cases h with
    | ins h1 h2 => exact .ins (e _ _ h1 fun _ z => by cases z) h2
theorem RpA.monoN (e : ExtN H H') : ∀ {ds : List D} {vs : List V}, RpA K S H vs ds → RpA K S H' vs ds
  | [], _, h => by cases h; exact .nil
  | d :: ds, _, h => by
    cases h with
    | cons h1 h2 => exact .cons (Rp.monoN e h1) (RpA.monoN e h2)
end
theorem PenAt.monoN {p : Addr} {n : Nat} (e : ExtN H H') (h : PenAt K S H p n) : PenAt K S H' p n := by
  obtain ⟨s, ra, ns, a, r, h1, h2, h3, h4, h5⟩ := h
  exact ⟨s, ra, ns, a, r, e _ _ h1 (fun _ z => by cases z), h2.monoN e, h3, h4, h5⟩
/-- the table stays while a dict turns -/
theorem Tabs.ex1 {T : List (Addr × Str)} {p : Addr} {kvs : List (Key × V)} (hp : H p = some (.dK kvs)) (e : Ex1 p H H') (t : Tabs T H) : Tabs T H' := fun x hx => by
  obtain ⟨ps, h1, h2, h3⟩ := t x hx
  refine ⟨ps, e _ _ (fun z => ?_) h1, h2, fun pos cv hc => ?_⟩
  · rw [z, hp] at h1; cases h1
  · obtain ⟨c, e1, e2⟩ := h3 pos cv hc
    refine ⟨c, e1, e _ _ (fun z => ?_) e2⟩
    rw [z, hp] at e2; cases e2
end
end Nv
set_option Elab.async false
set_option linter.all false
set_option maxRecDepth 100000
set_option maxHeartbeats 1000000
/-! The law's state: the pen, the table of lambdas. -/
namespace Nv
open PySem PySem.Spec PyProof.Rows L2 StX NvZ LamX
/-- the one mutable object: the pen -/
abbrev SP (p : Addr) : Addr → Prop := fun b => b = p
structure LS (K : PySem.W.Frag) (T : List (Addr × Str)) (p : Addr) (n : Nat) (H : Hp) : Prop where
  pen : PenAt K (SP p) H p n
  tabs : Tabs T H
section
variable {K : PySem.W.Frag} {A : Ads} {T : List (Addr × Str)} {p : Addr} {n m : Nat} {σ : L2.St} {H H' : Hp} {S S' : Addr → Prop}
theorem LS.mem (L : LS K T p n H) : Mem (SP p) H := fun b s => by
  obtain ⟨o, h⟩ := L.pen.there
  exact ⟨o, by rw [show b = p from s]; exact h⟩
theorem LS.le (L : LS K T p n H) (h : n ≤ m) : LS K T p m H := ⟨L.pen.le h, L.tabs⟩
theorem LS.ex (L : LS K T p n H) (e : Ex H H') : LS K T p n H' := ⟨L.pen.ex L.mem e, L.tabs.ext e⟩
theorem LS.up (L : LS K T p n H) (e : Ex H H') : Up K (SP p) H (SP p) H' := Up.ex L.mem e
theorem LS.ex1 (L : LS K T p n H) (e : Ex1 p H H') (h : PenAt K (SP p) H' p m) : LS K T p m H' ∧ Up K (SP p) H (SP p) H' := by
  obtain ⟨s, ra, ns, a, r, h1, _⟩ := L.pen
  exact ⟨⟨h, Nv.Tabs.ex1 h1 e L.tabs⟩, Up.exS (Ex1.exS L.mem rfl e h.there)⟩
theorem LS.extN (L : LS K T p n H) (e : ExtN H H') (t : Tabs T H') : LS K T p n H' ∧ Up K (SP p) H (SP p) H' := ⟨⟨L.pen.monoN e, t⟩, fun _ _ r => r.monoN e⟩
/-! ### what a step of the law wants -/
/-- behind a step: the state, the data, what it gave -/
def Aft (K : PySem.W.Frag) (T : List (Addr × Str)) (p : Addr) (n : Nat) (H : Hp) (d : D) (Q : VK) : Prop := ∀ v H', LS K T p n H' → Up K (SP p) H (SP p) H' → Rp K (SP p) H' v d → Q v H'
theorem ls_pure {te : TE} {d : D} {Q : VK} (L : LS K T p n H) (h : EvD K (SP p) te σ H d) (q : Aft K T p n H d Q) : te σ H Q := h H (Evl.Ex.refl _) Q fun v H1 e1 r1 => q v H1 (L.ex e1) (L.up e1) r1
theorem ls_draw {i : Nat} {te : TE} {most : Int} {Q : VK} (L : LS K T p n H) (hσ : σ[i]? = some (some (.ref p))) (hn : n ≤ 1000000) (h : EvD K (SP p) te σ H (.int most)) (h1 : 1 ≤ most) (h2 : most ≤ 1000)
    (q : ∀ k : Int, 0 ≤ k → k < most → Aft K T p (n + 1) H (.int k) Q) : tCall (spDraw K) [] E0 (tCons (tVar i) (tCons te tNil)) σ H Q :=
  cx_draw L.mem hσ L.pen hn h h1 h2 fun k H1 k0 k1 e1 _ p1 => q k k0 k1 _ H1 (L.ex1 e1 p1).1 (L.ex1 e1 p1).2 (.int k)
theorem ls_pick {i : Nat} {te : TE} {ds : List D} {Q : VK} (L : LS K T p n H) (hσ : σ[i]? = some (some (.ref p))) (hn : n ≤ 1000000) (h : EvD K (SP p) te σ H (.lst ds)) (h1 : 1 ≤ ds.length) (h2 : ds.length ≤ 1000)
    (q : ∀ d, d ∈ ds → Aft K T p (n + 1) H d Q) : tCall (spPick K) [] E0 (tCons (tVar i) (tCons te tNil)) σ H Q :=
  cx_pick L.mem hσ L.pen hn h h1 h2 fun d v H1 hd e1 _ p1 r1 => q d hd v H1 (L.ex1 e1 p1).1 (L.ex1 e1 p1).2 r1
theorem ls_any {i : Nat} {Q : VK} (L : LS K T p n H) (hσ : σ[i]? = some (some (.ref p))) (hn : n ≤ 999990)
    (q : ∀ ds, stepL ds = true → Aft K T p (n + 5) H (.tup ds) Q) : tCall (spAny K) [] E0 (tCons (tVar i) tNil) σ H Q :=
  ⟨_, hσ, SP p, p, n, rfl, L.mem, L.pen, hn, fun ds v H1 hs e1 _ p1 r1 => q ds hs v H1 (L.ex1 e1 p1).1 (L.ex1 e1 p1).2 r1⟩
theorem ls_bent {i : Nat} {te : TE} {ls : List (List Str)} {N M : Nat} {Q : VK} (L : LS K T p n H) (hσ : σ[i]? = some (some (.ref p))) (hn : n ≤ 999990) (h : EvD K (SP p) te σ H (linesD ls)) (hl : LinesOk N M ls) (hN : N ≤ 20) (hM : M ≤ 20)
    (q : ∀ ls', LinesOk (N + 1) (M + 1) ls' → Aft K T p (n + 4) H (linesD ls') Q) : tCall (spBent K) [] E0 (tCons (tVar i) (tCons te tNil)) σ H Q :=
  ⟨_, hσ, h H (Evl.Ex.refl _) _ fun v H1 e1 r1 => ⟨SP p, p, n, v, ls, N, M, rfl, (L.ex e1).mem, (L.ex e1).pen, hn, r1, hl, hN, hM, fun ls' u H2 hl' e2 _ p2 r2 =>
    q ls' hl' u H2 ((L.ex e1).ex1 e2 p2).1 ((L.up e1).trans ((L.ex e1).ex1 e2 p2).2) r2⟩⟩
/-- a lambda handed to `_law_heard` -/
theorem ls_lam {t : XK → TE} {r : Res} {Q : VK} (L : LS K T p n H) (h : ∀ H1, LS K T p n H1 → Up K (SP p) H (SP p) H1 → Does K A (SP p) H1 (fun E H' Q' => t E σ H' Q') r) (q : Aft K T p n H r.d Q) : tLam T (TTh K A) t σ H Q :=
  ⟨L.tabs, fun H1 e1 t1 => by
    obtain ⟨L1, u1⟩ := L.extN e1 t1
    exact ⟨SP p, r, L1.mem, fun H2 e2 => h H2 (L1.ex e2) (u1.trans (L1.up e2)), fun v H2 e2 r2 => q v H2 (L1.ex e2) (u1.trans (L1.up e2)) r2⟩⟩
/-- read_program in a lambda, program_text in a lambda -/
theorem ls_read {te : TE} {d : D} {Q : VK} (L : LS K T p n H) (h : ∀ H1, LS K T p n H1 → Up K (SP p) H (SP p) H1 → EvD K (SP p) te σ H1 d) (hin : textIn d) (q : Aft K T p n H (resRead d).d Q) : tLam T (TTh K A) (fun E => tCall (spRead K A) [] E (tCons te tNil)) σ H Q :=
  ls_lam (r := resRead d) L (fun H1 L1 u1 => does_read L1.mem (fun _ => h H1 L1 u1) hin) q
theorem ls_text {te : TE} {d : D} {Q : VK} (L : LS K T p n H) (h : ∀ H1, LS K T p n H1 → Up K (SP p) H (SP p) H1 → EvD K (SP p) te σ H1 d) (hin : progIn d = true) (q : Aft K T p n H (resText d).d Q) : tLam T (TTh K A) (fun E => tCall (spProgText K A) [] E (tCons te tNil)) σ H Q :=
  ls_lam (r := resText d) L (fun H1 L1 u1 => does_text L1.mem (fun _ => h H1 L1 u1) hin) q
/-! ### statements -/
theorem lt_set {te : TE} {i : Nat} {r : TS} {D0 : Ends} (h : te σ H fun v H1 => r D0 (σ.set i (some v)) H1) : tSeq (tAsg te (gName i)) r D0 σ H := h
theorem lt_setP {te : TE} {i : Nat} {d : D} {r : TS} {D0 : Ends} (L : LS K T p n H) (h : EvD K (SP p) te σ H d) (q : Aft K T p n H d fun v H1 => r D0 (σ.set i (some v)) H1) : tSeq (tAsg te (gName i)) r D0 σ H := ls_pure L h q
theorem lt_ret {te : TE} {D0 : Ends} (h : te σ H D0.rt) : tRet te D0 σ H := h
/-- an if whose test is false, no else -/
theorem lt_no {t : TT} {u : TS} {D0 : Ends} (L : LS K T p n H) (h : EvB t σ H false) (q : ∀ H1, LS K T p n H1 → Up K (SP p) H (SP p) H1 → D0.nx σ H1) : tIfS t u tNext D0 σ H := h H (Evl.Ex.refl _) _ fun H1 e1 => by
  show (if false = true then u D0 σ H1 else D0.nx σ H1)
  rw [if_neg Bool.false_ne_true]
  exact q H1 (L.ex e1) (L.up e1)
theorem lt_if {b : Bool} {t : TT} {u r : TS} {D0 : Ends} (L : LS K T p n H) (h : EvB t σ H b) (q : ∀ H1, LS K T p n H1 → Up K (SP p) H (SP p) H1 → if b = true then u D0 σ H1 else r D0 σ H1) : tIfS t u r D0 σ H := h H (Evl.Ex.refl _) _ fun H1 e1 => q H1 (L.ex e1) (L.up e1)
theorem aft_mono {d : D} {Q Q' : VK} {H0 : Hp} (u : Up K (SP p) H0 (SP p) H) (q : Aft K T p n H0 d Q) : Aft K T p n H d Q := fun v H' L u' r => q v H' L (u.trans u') r
end
end Nv
set_option Elab.async false
set_option linter.all false
set_option maxRecDepth 100000
set_option maxHeartbeats 1000000
/-! Plain facts of the law's data. -/
namespace Nv
open PySem PySem.Spec PyProof.Rows L2 StX NvZ LamX
theorem eqD_refl {d : D} (h : plainD d = true) : eqD d d = true := PySem.SeqAt.eqv_refl _ (lay_pd d h)
/-! ### the words of a step are let -/
theorem within_int {d : D} {m : Int} (h : withinLt d m = true) : ∃ i : Int, d = .int i ∧ 0 ≤ i ∧ i < m := by
  cases d with
  | int i =>
    have h' : (decide (0 ≤ i) && decide (i < m)) = true := h
    simp only [Bool.and_eq_true, decide_eq_true_eq] at h'
    exact ⟨i, rfl, h'.1, h'.2⟩
  | _ => cases h
theorem in4 {i : Int} (h0 : 0 ≤ i) (h : i < 4) : i ∈ ([0, 1, 2, 3] : List Int) := by
  have : i = 0 ∨ i = 1 ∨ i = 2 ∨ i = 3 := by omega
  rcases this with rfl | rfl | rfl | rfl <;> decide
theorem in3' {i : Int} (h0 : 0 ≤ i) (h : i < 3) : i ∈ ([0, 1, 2] : List Int) := by
  have : i = 0 ∨ i = 1 ∨ i = 2 := by omega
  rcases this with rfl | rfl | rfl <;> decide
theorem in2' {i : Int} (h0 : 0 ≤ i) (h : i < 2) : i ∈ ([0, 1] : List Int) := by
  have : i = 0 ∨ i = 1 := by omega
  rcases this with rfl | rfl <;> decide
theorem cl_new : ∀ a ∈ ([0, 1, 2, 3] : List Int), ∀ b ∈ ([0, 1, 2] : List Int), lineW ["new", istr a, istr b] = none := by decide +kernel
theorem cl_read : ∀ a ∈ ([0, 1, 2, 3] : List Int), ∀ b ∈ ([0, 1, 2, 3] : List Int), ∀ c ∈ ([0, 1] : List Int), lineW ["read", istr a, istr b, istr c] = none := by decide +kernel
theorem cl_write : ∀ a ∈ ([0, 1, 2, 3] : List Int), ∀ b ∈ ([0, 1] : List Int), lineW ["write", istr a, istr b, "-"] = none ∧ ∀ c ∈ ([0, 1, 2, 3] : List Int), lineW ["write", istr a, istr b, istr c] = none := by decide +kernel
theorem cl_copy : ∀ a ∈ ([0, 1, 2, 3] : List Int), ∀ b ∈ ([0, 1, 2, 3] : List Int), a ≠ b → lineW ["copy", istr a, istr b] = none := by decide +kernel
theorem cl_drop : ∀ a ∈ ([0, 1, 2, 3] : List Int), lineW ["drop", istr a] = none := by decide +kernel
theorem cl_tick : lineW ["tick"] = none := by decide +kernel
theorem len0 : ("rk" : Str).length = 2 ∧ ("rrf" : Str).length = 3 ∧ ("rfv" : Str).length = 3 ∧ ("rr" : Str).length = 2 ∧ ("r" : Str).length = 1 ∧ ("" : Str).length = 0 := by decide +kernel
theorem step_clean {ds : List D} (h : stepL ds = true) : lineW (wordsOf ds) = none := by
  obtain ⟨w, f, ps, rfl, hf, hl, ha⟩ := stepL_inv h
  obtain ⟨l1, l2, l3, l4, l5, l6⟩ := len0
  obtain ⟨o1, o2, o3, o4, o5, o6⟩ := so
  rcases form_cases hf with ⟨rfl, rfl⟩ | ⟨rfl, rfl⟩ | ⟨rfl, rfl⟩ | ⟨rfl, rfl⟩ | ⟨rfl, rfl⟩ | ⟨rfl, rfl⟩
  · rw [l1] at hl
    match ps, hl with
    | [a, b], _ =>
      rw [o1] at ha
      have ha' : (partOk "r" a && (partOk "k" b && true)) = true := ha
      rw [partOk_r, partOk_k, Bool.and_true, Bool.and_eq_true] at ha'
      obtain ⟨i, rfl, i0, i1⟩ := within_int ha'.1
      obtain ⟨j, rfl, j0, j1⟩ := within_int ha'.2
      exact cl_new i (in4 i0 i1) j (in3' j0 j1)
  · rw [l2] at hl
    match ps, hl with
    | [a, b, c], _ =>
      rw [o2] at ha
      have ha' : (partOk "r" a && (partOk "r" b && (partOk "f" c && true))) = true := ha
      rw [partOk_r, partOk_r, partOk_f, Bool.and_true, Bool.and_eq_true, Bool.and_eq_true] at ha'
      obtain ⟨i, rfl, i0, i1⟩ := within_int ha'.1
      obtain ⟨j, rfl, j0, j1⟩ := within_int ha'.2.1
      obtain ⟨k, rfl, k0, k1⟩ := within_int ha'.2.2
      exact cl_read i (in4 i0 i1) j (in4 j0 j1) k (in2' k0 k1)
  · rw [l3] at hl
    match ps, hl with
    | [a, b, c], _ =>
      rw [o3] at ha
      have ha' : (partOk "r" a && (partOk "f" b && (partOk "v" c && true))) = true := ha
      rw [partOk_r, partOk_f, partOk_v, Bool.and_true, Bool.and_eq_true, Bool.and_eq_true, Bool.or_eq_true] at ha'
      obtain ⟨i, rfl, i0, i1⟩ := within_int ha'.1
      obtain ⟨j, rfl, j0, j1⟩ := within_int ha'.2.1
      rcases ha'.2.2 with hc | hc
      · have : c = .non := by cases c <;> first | rfl | cases hc
        subst this
        exact (cl_write i (in4 i0 i1) j (in2' j0 j1)).1
      · obtain ⟨k, rfl, k0, k1⟩ := within_int hc
        exact (cl_write i (in4 i0 i1) j (in2' j0 j1)).2 k (in4 k0 k1)
  · rw [l4] at hl
    match ps, hl with
    | [a, b], _ =>
      rw [o4] at ha
      have ha' : (partOk "r" a && (partOk "r" b && true)) = true := ha
      rw [partOk_r, partOk_r, Bool.and_true, Bool.and_eq_true] at ha'
      obtain ⟨i, rfl, i0, i1⟩ := within_int ha'.1
      obtain ⟨j, rfl, j0, j1⟩ := within_int ha'.2
      refine cl_copy i (in4 i0 i1) j (in4 j0 j1) fun z => ?_
      subst z
      have h' : (match formOf "copy" with
        | some f => decide (([D.int i, D.int i] : List D).length = f.length) && (((sorts f).zip [D.int i, D.int i]).all fun p => partOk p.1 p.2) && (!decide (("copy" : Str) = "copy") || !eqD (.int i) (.int i))
        | none => false) = true := h
      rw [copyForm] at h'
      replace h' : (decide (([D.int i, D.int i] : List D).length = ("rr" : Str).length) && (((sorts "rr").zip [D.int i, D.int i]).all fun p => partOk p.1 p.2) && (!decide (("copy" : Str) = "copy") || !eqD (.int i) (.int i))) = true := h'
      rw [eqD_int, decide_eq_true rfl, decide_eq_true rfl, Bool.not_true, Bool.or_false, Bool.and_false] at h'
      cases h'
  · rw [l5] at hl
    match ps, hl with
    | [a], _ =>
      rw [o5] at ha
      have ha' : (partOk "r" a && true) = true := ha
      rw [partOk_r, Bool.and_true] at ha'
      obtain ⟨i, rfl, i0, i1⟩ := within_int ha'
      exact cl_drop i (in4 i0 i1)
  · rw [l6] at hl
    match ps, hl with
    | [], _ => exact cl_tick
theorem steps_clean : ∀ (dss : List (List D)) (rest : List (List Str)) (l : Nat), (∀ ds ∈ dss, stepL ds = true) → wrongsFrom (dss.map wordsOf ++ rest) l = wrongsFrom rest (l + dss.length)
  | [], rest, l, _ => rfl
  | ds :: dss, rest, l, h => by
    show (match lineW (wordsOf ds) with
      | some k => (l, k) :: wrongsFrom (dss.map wordsOf ++ rest) (l + 1)
      | none => wrongsFrom (dss.map wordsOf ++ rest) (l + 1)) = _
    rw [step_clean (h ds List.mem_cons_self)]
    show wrongsFrom (dss.map wordsOf ++ rest) (l + 1) = _
    rw [steps_clean dss rest (l + 1) fun x hx => h x (List.mem_cons_of_mem _ hx)]
    show wrongsFrom rest (l + 1 + dss.length) = wrongsFrom rest (l + (dss.length + 1))
    rw [Nat.add_assoc, Nat.add_comm 1]
/-! ### the wrong lines, as data -/
def dstr : D → Str
  | .str s => s
  | _ => ""
def dw : D → List Str
  | .lst xs => xs.map dstr
  | _ => []
theorem dw_line (ws : List Str) : dw (lineD ws) = ws := by
  show (ws.map D.str).map dstr = ws
  rw [List.map_map]
  exact (List.map_congr_left (fun x _ => rfl)).trans (List.map_id ws)
def wrD (x : Nat × Nat) : D := .tup [.int x.1, .int x.2]
def wp : D → Bool := onPair (fun q => (lineW (dw q.2)).isSome) false
def wf : D → D := onPair (fun q => .tup [q.1, wrongD (lineW (dw q.2))]) .non
theorem wrongs_eq : ∀ (ls : List (List Str)) (l : Nat), ((((ls.map lineD).mapIdx fun i d => D.tup [.int ((i + l : Nat) : Int), d]).filter wp).map wf) = (wrongsFrom ls l).map wrD
  | [], l => rfl
  | ws :: ls, l => by
    have ih := wrongs_eq ls (l + 1)
    have e : ((ls.map lineD).mapIdx fun i d => D.tup [.int ((i + 1 + l : Nat) : Int), d]) = ((ls.map lineD).mapIdx fun i d => D.tup [.int ((i + (l + 1) : Nat) : Int), d]) := by
      congr 1
      funext i d
      rw [Nat.add_assoc, Nat.add_comm 1]
    rw [List.map_cons, List.mapIdx_cons, e]
    have e2 : wrongsFrom (ws :: ls) l = (match lineW ws with
      | some k => (l, k) :: wrongsFrom ls (l + 1)
      | none => wrongsFrom ls (l + 1)) := rfl
    have e3 : wp (D.tup [.int ((0 + l : Nat) : Int), lineD ws]) = (lineW ws).isSome := by
      show (lineW (dw (lineD ws))).isSome = _
      rw [dw_line]
    have e4 : wf (D.tup [.int ((0 + l : Nat) : Int), lineD ws]) = .tup [.int ((0 + l : Nat) : Int), wrongD (lineW ws)] := by
      show D.tup [_, wrongD (lineW (dw (lineD ws)))] = _
      rw [dw_line]
    rw [e2]
    cases hw : lineW ws with
    | none =>
      rw [List.filter_cons_of_neg (by rw [e3, hw]; decide), ih]
    | some k =>
      rw [List.filter_cons_of_pos (by rw [e3, hw]; rfl), List.map_cons, ih, e4, hw, Nat.zero_add]
      rfl
/-! ### what is not a step -/
def dp : D → Bool := onPair (fun q => !isStepD q.2) false
def df : D → D := onPair (fun q => q.1) .non
theorem due_eq : ∀ (ds : List D) (l : Nat), ∃ is : List Int, ((((ds.mapIdx fun i d => D.tup [.int ((i + l : Nat) : Int), d]).filter dp).map df) = is.map D.int) ∧ match badAt ds with
    | some i => ∃ t, is = ((i + l : Nat) : Int) :: t
    | none => is = []
  | [], l => ⟨[], rfl, rfl⟩
  | d :: ds, l => by
    obtain ⟨is, h1, h2⟩ := due_eq ds (l + 1)
    have e : (ds.mapIdx fun i d => D.tup [.int ((i + 1 + l : Nat) : Int), d]) = (ds.mapIdx fun i d => D.tup [.int ((i + (l + 1) : Nat) : Int), d]) := by
      congr 1
      funext i d
      rw [Nat.add_assoc, Nat.add_comm 1]
    have eb : badAt (d :: ds) = if isStepD d = true then (badAt ds).map (· + 1) else some 0 := rfl
    by_cases hd : isStepD d = true
    · refine ⟨is, ?_, ?_⟩
      · rw [List.mapIdx_cons, e, List.filter_cons_of_neg (by show ¬ (!isStepD d) = true; rw [hd]; decide), h1]
      · rw [eb, if_pos hd]
        cases hb : badAt ds with
        | none => rw [hb] at h2; exact h2
        | some i =>
          rw [hb] at h2
          obtain ⟨t, ht⟩ := h2
          refine ⟨t, ?_⟩
          rw [ht]
          have : i + (l + 1) = i + 1 + l := by omega
          rw [this]
    · have hd' : isStepD d = false := by simpa using hd
      refine ⟨((0 + l : Nat) : Int) :: is, ?_, ?_⟩
      · rw [List.mapIdx_cons, e, List.filter_cons_of_pos (by show (!isStepD d) = true; rw [hd']; rfl), List.map_cons, h1]
        rfl
      · rw [eb, if_neg hd]
        exact ⟨is, rfl⟩
/-! ### what the law hands on -/
theorem plain_ints : ∀ is : List Int, plainA (is.map D.int) = true
  | [] => rfl
  | i :: is => by
    show (true && plainA (is.map D.int)) = true
    rw [plain_ints is]; rfl
theorem dep_ints : ∀ is : List Int, depA (is.map D.int) = 0
  | [] => rfl
  | i :: is => by
    show max 0 (depA (is.map D.int)) = 0
    rw [dep_ints is]; rfl
theorem plain_wrs : ∀ xs : List (Nat × Nat), plainA (xs.map wrD) = true
  | [] => rfl
  | x :: xs => by
    show (true && plainA (xs.map wrD)) = true
    rw [plain_wrs xs]; rfl
theorem dep_wrs : ∀ xs : List (Nat × Nat), depA (xs.map wrD) ≤ 1
  | [] => Nat.zero_le _
  | x :: xs => by
    have := dep_wrs xs
    show max 1 (depA (xs.map wrD)) ≤ 1
    omega
theorem ne_nil_wrs (xs : List (Nat × Nat)) : eqD (.lst (xs.map wrD)) (.lst []) = decide (xs = []) := by
  cases xs with
  | nil => rfl
  | cons x xs => rfl
theorem ne_nil_ints (xs : List Int) : eqD (.lst (xs.map D.int)) (.lst []) = decide (xs = []) := by
  cases xs with
  | nil => rfl
  | cons x xs => rfl
/-- no deep thing, no instance -/
def SomeOk (d : D) : Prop := stepIn d = true ∧ okF d = true ∧ dep d ≤ 10
theorem part_some {d : D} (h : PartIs d) : d.base = true ∧ okF d = true ∧ dep d = 0 := by
  rcases h with rfl | ⟨i, rfl, _⟩ <;> exact ⟨rfl, rfl, rfl⟩
theorem okFA_of : ∀ {ds : List D}, (∀ d ∈ ds, okF d = true) → okFA ds = true
  | [], _ => rfl
  | d :: ds, h => by
    show (okF d && okFA ds) = true
    rw [h d List.mem_cons_self, okFA_of fun x hx => h x (List.mem_cons_of_mem _ hx)]; rfl
theorem depA_of {n : Nat} : ∀ {ds : List D}, (∀ d ∈ ds, dep d ≤ n) → depA ds ≤ n
  | [], _ => Nat.zero_le _
  | d :: ds, h => by
    have h1 := h d List.mem_cons_self
    have h2 := depA_of (n := n) (ds := ds) fun x hx => h x (List.mem_cons_of_mem _ hx)
    show max (dep d) (depA ds) ≤ n
    omega
/-- a tuple of plain things behind a word -/
theorem some_tup {ds : List D} (h : ∀ d ∈ ds, d.base = true ∧ okF d = true ∧ dep d ≤ 5) (h1 : headOk ds = true) (hl : ds.length ≤ 10) : SomeOk (.tup ds) ∧ SomeOk (.lst ds) := by
  have e1 : (ds.all D.base && headOk ds && decide (ds.length ≤ 1000)) = true := by
    rw [h1, decide_eq_true (by omega), List.all_eq_true.mpr fun d hd => (h d hd).1]; rfl
  have e2 : (decide (ds.length ≤ 100000) && okFA ds) = true := by
    rw [decide_eq_true (by omega), okFA_of fun d hd => (h d hd).2.1]; rfl
  have e3 : depA ds + 1 ≤ 10 := by
    have := depA_of (n := 5) fun d hd => (h d hd).2.2
    omega
  exact ⟨⟨e1, e2, e3⟩, e1, e2, e3⟩
theorem step_some {ds : List D} (h : stepL ds = true) : (∀ d ∈ ds, d.base = true ∧ okF d = true ∧ dep d ≤ 5) ∧ headOk ds = true ∧ 1 ≤ ds.length ∧ ds.length ≤ 4 := by
  obtain ⟨w, f, ps, rfl, hf, hl, hl3, hw5, hok, hp⟩ := step_parts h
  refine ⟨fun d hd => ?_, hok, by show 1 ≤ ps.length + 1; omega, by show ps.length + 1 ≤ 4; omega⟩
  rcases List.mem_cons.mp hd with rfl | hd
  · exact ⟨rfl, rfl, Nat.zero_le _⟩
  · obtain ⟨q1, q2, q3⟩ := part_some (hp d hd)
    exact ⟨q1, q2, by omega⟩
def oddD (ds : List D) : List D := [.non, .int 5, .str "drop", .tup [], .tup (ds ++ [.int 0]), .tup (ds.take (ds.length - 1) ++ [.bl true]), .tup [.str "drop", .int 4], .tup [.str "new", .int 0, .int 3], .tup [.str "copy", .int 2, .int 2], .tup [.str "write", .non, .int 0, .int 0]]
def moreD (ds : List D) : List D := [.tup [.str "tick", .non], .dic, .lst [.lst ds], .tup [.str "read", .int 0, .int 0, .int 2]]
theorem bad_some {ds : List D} (h : stepL ds = true) {d : D} (hd : d ∈ oddD ds ++ moreD ds) : SomeOk d := by
  obtain ⟨h1, h2, h3, h4⟩ := step_some h
  have one : ∀ {d : D}, d = .int 0 ∨ d = .bl true → d.base = true ∧ okF d = true ∧ dep d ≤ 5 := fun hd => by rcases hd with rfl | rfl <;> exact ⟨rfl, rfl, Nat.zero_le _⟩
  have hd' : d = .non ∨ d = .int 5 ∨ d = .str "drop" ∨ d = .tup [] ∨ d = .tup (ds ++ [.int 0]) ∨ d = .tup (ds.take (ds.length - 1) ++ [.bl true]) ∨ d = .tup [.str "drop", .int 4] ∨ d = .tup [.str "new", .int 0, .int 3] ∨ d = .tup [.str "copy", .int 2, .int 2] ∨ d = .tup [.str "write", .non, .int 0, .int 0] ∨
      d = .tup [.str "tick", .non] ∨ d = .dic ∨ d = .lst [.lst ds] ∨ d = .tup [.str "read", .int 0, .int 0, .int 2] := by
    simpa [oddD, moreD] using hd
  rcases hd' with rfl | rfl | rfl | rfl | rfl | rfl | rfl | rfl | rfl | rfl | rfl | rfl | rfl | rfl
  · exact ⟨rfl, rfl, Nat.zero_le _⟩
  · exact ⟨rfl, rfl, Nat.zero_le _⟩
  · exact ⟨rfl, rfl, Nat.zero_le _⟩
  · exact ⟨by decide, by decide, by decide⟩
  · refine (some_tup (fun d hd => ?_) ?_ (by rw [List.length_append]; show _ + 1 ≤ 10; omega)).1
    · rcases List.mem_append.mp hd with hd | hd
      · exact h1 d hd
      · exact one (.inl (by simpa using hd))
    · cases ds with
      | nil => exact rfl
      | cons x xs => cases x <;> exact h2
  · refine (some_tup (fun d hd => ?_) ?_ (by rw [List.length_append, List.length_take]; show _ + 1 ≤ 10; omega)).1
    · rcases List.mem_append.mp hd with hd | hd
      · exact h1 d (List.mem_of_mem_take hd)
      · exact one (.inr (by simpa using hd))
    · match ds, h2 with
      | [], _ => rfl
      | [x], _ => rfl
      | x :: y :: r, h2 => cases x <;> exact h2
  · exact ⟨by decide +kernel, by decide +kernel, by decide +kernel⟩
  · exact ⟨by decide +kernel, by decide +kernel, by decide +kernel⟩
  · exact ⟨by decide +kernel, by decide +kernel, by decide +kernel⟩
  · exact ⟨by decide +kernel, by decide +kernel, by decide +kernel⟩
  · exact ⟨by decide +kernel, by decide +kernel, by decide +kernel⟩
  · exact ⟨rfl, rfl, Nat.zero_le _⟩
  · have q := (some_tup h1 h2 (by omega)).2
    refine (some_tup (ds := [.lst ds]) (fun d hd => ?_) rfl (by show 1 ≤ 10; decide)).2
    have : d = .lst ds := by simpa using hd
    rw [this]
    refine ⟨rfl, q.2.1, ?_⟩
    have : depA ds ≤ 4 := depA_of fun d hd => by
      obtain ⟨w, f, ps, rfl, hf, hl, hl3, hw5, hok, hp⟩ := step_parts h
      rcases List.mem_cons.mp hd with rfl | hd
      · exact Nat.zero_le _
      · have := (part_some (hp d hd)).2.2
        omega
    show depA ds + 1 ≤ 5
    omega
  · exact ⟨by decide +kernel, by decide +kernel, by decide +kernel⟩
theorem prog_in {ds : List D} (h : ∀ d ∈ ds, SomeOk d) (hl : ds.length ≤ 1000) : progIn (.lst ds) = true ∧ progIn (.tup ds) = true := by
  have e : (ds.all (fun d => stepIn d && okF d && decide (dep d ≤ 10)) && decide (ds.length ≤ 1000)) = true := by
    rw [decide_eq_true hl, Bool.and_true, List.all_eq_true]
    intro d hd
    obtain ⟨h1, h2, h3⟩ := h d hd
    rw [h1, h2, decide_eq_true h3]; rfl
  exact ⟨e, e⟩
theorem step_ok {ds : List D} (h : stepL ds = true) : SomeOk (.tup ds) := (some_tup (step_some h).1 (step_some h).2.1 (by have := (step_some h).2.2.2; omega)).1
/-- the text of a program that is one -/
theorem prog_text_ok {l : List D} (h0 : l ≠ []) (hl : l.length ≤ 20) (h : ∀ d ∈ l, isStepD d = true) : PyData.strOk (progText (l.map fixD)) = true := by
  have hw : ∀ d ∈ l, stepL (itemsOfD (fixD d)) = true := fun d hd => by
    obtain ⟨ds, e1, e2⟩ := (fix_isStep (h d hd)).1
    rw [e1]; exact e2
  have e : progText (l.map fixD) = textL ((l.map fun d => itemsOfD (fixD d)).map wordsOf) := by
    match l, h0 with
    | d :: l, _ =>
      show Txt.join "\n" (((d :: l).map fixD).map fun d => textOf (itemsOfD d)) = Txt.join "\n" ((((d :: l).map fun d => itemsOfD (fixD d)).map wordsOf).map fun ws => Txt.join " " ws)
      rw [List.map_map, List.map_map, List.map_map]
      rfl
  rw [e]
  refine (txt_ok (N := 20) (M := 4) (steps_lines (fun z => h0 (List.map_eq_nil_iff.mp z)) (by rw [List.length_map]; exact hl) fun ds hds => ?_) (by decide) (by decide)).ok
  obtain ⟨d, hd, rfl⟩ := List.mem_map.mp hds
  exact hw d hd
/-! ### the last line, the written texts -/
theorem read_at {ls : List (List Str)} {x : Nat × Nat} {t : List (Nat × Nat)} (h : LsOk ls) (hw : wrongsFrom ls 0 = x :: t) : readFrom ls 0 = .inl x := by
  have := read_law ls 0 h
  rw [hw] at this
  exact this
theorem lines_of3 : linesOf "" = [[("" : Str)]] ∧ linesOf "-\n-" = [[("-" : Str)], [("-" : Str)]] ∧ linesOf "tick\n-" = [[("tick" : Str)], [("-" : Str)]] := by decide +kernel
theorem read_empty : readFrom (linesOf "") 0 = .inl (0, 0) := by
  rw [lines_of3.1]
  exact read_at (t := []) (show ∀ ws ∈ [[("" : Str)]], ws ≠ [] ∧ ∀ w ∈ ws, w ∈ WL by decide +kernel) (by decide +kernel)
theorem read_d1 : (readFrom (linesOf "-\n-") 0) = .inl (0, 0) := by
  rw [lines_of3.2.1]
  exact read_at (t := [(1, 0)]) (show ∀ ws ∈ [[("-" : Str)], [("-" : Str)]], ws ≠ [] ∧ ∀ w ∈ ws, w ∈ WL by decide +kernel) (by decide +kernel)
theorem read_d2 : (readFrom (linesOf "tick\n-") 0) = .inl (1, 0) := by
  rw [lines_of3.2.2]
  exact read_at (t := []) (show ∀ ws ∈ [[("tick" : Str)], [("-" : Str)]], ws ≠ [] ∧ ∀ w ∈ ws, w ∈ WL by decide +kernel) (by decide +kernel)
theorem res_empty : resRead (.str "") = .text (0 : Nat) (0 : Nat) := by
  unfold resRead
  simp only [if_neg (show ¬ ("" : Str) = "-" by decide +kernel), read_empty]
theorem res_d1 : resRead (.str "-\n-") = .text (0 : Nat) (0 : Nat) := by
  unfold resRead
  simp only [if_neg (show ¬ ("-\n-" : Str) = "-" by decide +kernel), read_d1]
theorem res_d2 : resRead (.str "tick\n-") = .text (1 : Nat) (0 : Nat) := by
  unfold resRead
  simp only [if_neg (show ¬ ("tick\n-" : Str) = "-" by decide +kernel), read_d2]
theorem tx_empty : TxtOk "" := ⟨by decide +kernel, by decide +kernel, by decide +kernel, by decide +kernel, by decide +kernel⟩
theorem tx_d1 : TxtOk "-\n-" := ⟨by decide +kernel, by decide +kernel, by decide +kernel, by decide +kernel, by decide +kernel⟩
theorem tx_d2 : TxtOk "tick\n-" := ⟨by decide +kernel, by decide +kernel, by decide +kernel, by decide +kernel, by decide +kernel⟩
/-- what is read of bent lines -/
theorem res_lines {N M : Nat} {ls : List (List Str)} (L : LinesOk N M ls) (hd : textL ls ≠ "-") : match wrongsFrom ls 0 with
    | x :: _ => resRead (.str (textL ls)) = .text (x.1 : Nat) (x.2 : Nat)
    | [] => ∃ dss, resRead (.str (textL ls)) = .val (.tup (dss.map D.tup)) ∧ Read ls dss := by
  have h := read_law ls 0 L.lsOk
  have e : resRead (.str (textL ls)) = (match readFrom ls 0 with
    | .inl (l, a) => Res.text l a
    | .inr dss => .val (.tup (dss.map D.tup))) := by
    unfold resRead
    simp only [if_neg hd, lines_back L]
    all_goals (cases readFrom ls 0 <;> rfl)
  rw [e]
  cases hw : wrongsFrom ls 0 with
  | cons x t =>
    rw [hw] at h
    replace h : readFrom ls 0 = .inl x := h
    show (match readFrom ls 0 with
      | .inl (l, a) => Res.text l a
      | .inr dss => .val (.tup (dss.map D.tup))) = _
    rw [h]
  | nil =>
    rw [hw] at h
    obtain ⟨dss, h1, h2⟩ := h
    refine ⟨dss, ?_, h2⟩
    rw [h1]
theorem res_dash : resRead (.str "-") = .val (.tup []) := by
  unfold resRead
  simp only [if_true]
/-- a program's text and an empty line behind it -/
theorem res_nl {dss : List (List D)} (h0 : dss ≠ []) (hl : dss.length ≤ 5) (h : ∀ ds ∈ dss, stepL ds = true) : resRead (.str (textL (dss.map wordsOf) ++ "\n")) = .text ((dss.map wordsOf).length : Nat) (0 : Nat) ∧ TxtOk (textL (dss.map wordsOf) ++ "\n") := by
  have L := steps_lines h0 hl h
  have L2 : LinesOk 6 4 (dss.map wordsOf ++ [[("" : Str)]]) := by
    refine ⟨by simp, ?_, fun ws hw => ?_⟩
    · have := L.len
      rw [List.length_append]; show _ + 1 ≤ 6; omega
    · rcases List.mem_append.mp hw with hw | hw
      · exact L.each ws hw
      · have : ws = [("" : Str)] := by simpa using hw
        rw [this]
        exact ⟨by simp, by show 1 ≤ 4; decide, fun w hw => by
          have : w = "" := by simpa using hw
          rw [this]; decide +kernel⟩
  have e := textL_end L.ne
  rw [← e]
  refine ⟨?_, txt_ok L2 (by decide) (by decide)⟩
  have hd : textL (dss.map wordsOf ++ [[("" : Str)]]) ≠ "-" := fun z => by
    have := congrArg List.length (text_dash L2 z)
    rw [List.length_append, List.length_map] at this
    have h1 : dss.length ≠ 0 := fun z => h0 (List.length_eq_zero_iff.mp z)
    simp at this
    exact h1 (by rw [this]; rfl)
  have r := res_lines L2 hd
  rw [steps_clean dss _ 0 h] at r
  have ew : wrongsFrom [[("" : Str)]] (0 + dss.length) = [(0 + dss.length, 0)] := by
    show (match lineW [("" : Str)] with
      | some k => (0 + dss.length, k) :: wrongsFrom [] (0 + dss.length + 1)
      | none => wrongsFrom [] (0 + dss.length + 1)) = _
    rw [show lineW [("" : Str)] = some 0 by decide +kernel]
    rfl
  rw [ew] at r
  replace r : resRead (.str (textL (dss.map wordsOf ++ [[("" : Str)]]))) = .text ((0 + dss.length : Nat) : Int) ((0 : Nat) : Int) := r
  rw [r, List.length_map, Nat.zero_add]
end Nv
set_option Elab.async false
set_option linter.all false
set_option maxRecDepth 100000
set_option maxHeartbeats 1000000
/-! The law's turns: lines, wrong lines, texts; the inner ifs. -/
namespace Nv
open PySem PySem.Spec PyProof.Rows L2 StX NvZ LamX
section
variable {K : PySem.W.Frag} {A : Ads} {T : List (Addr × Str)} {S : Addr → Prop} {σ : L2.St} {H H' : Hp} {p : Addr} {n : Nat} {ls : List (List Str)} {N M : Nat}
abbrev tLines (K : PySem.W.Frag) : TE := tLc (iSeq K (tVar 3)) (gName 11) tYes (tM1 rSplit (tCall (spLine K) [] E0 (tCons (tVar 11) tNil)) (tC (.str " "))) [11]
theorem ev_lines' {v : V} {dss : List (List D)} (m : Mem S H) (hσ : σ[3]? = some (some v)) (hw : ∀ x, wipe ((wipe σ [11]).set 11 (some x)) [11] = wipe σ [11]) (hg : ∀ x, ((wipe σ [11]).set 11 (some x))[11]? = some (some x))
    (r : Rp K S H v (.lst (dss.map D.tup))) (hl : dss.length ≤ 1000) (h : ∀ ds ∈ dss, stepL ds = true) : EvD K S (tLines K) σ H (linesD (dss.map wordsOf)) := by
  have hi := ei_seq m (ev_var (i := 3) m hσ r) rfl
  have hm := ev_map (i := 11) (te := tM1 rSplit (tCall (spLine K) [] E0 (tCons (tVar 11) tNil)) (tC (.str " "))) (f := fun d => .lst ((Txt.split (textOf (itemsOfD d)) " ").map D.str)) m hi (by show (dss.map D.tup).length ≤ _; rw [List.length_map]; omega) fun S' H' m' up ex x d hd rx => by
    obtain ⟨ds, hds, rfl⟩ := List.mem_map.mp (show d ∈ dss.map D.tup from hd)
    refine ⟨hw x, ev_split m' (ev_pure m' (ev_a1 (ev_var (i := 11) m' (hg x) rx)) rfl ⟨_, rfl, ds, rfl, h ds hds⟩) ev_str (by decide +kernel) ?_⟩
    have := text_short (h ds hds)
    show (textOf ds).length ≤ _
    omega
  refine hm.is ?_
  show D.lst ((dss.map D.tup).map _) = D.lst ((dss.map wordsOf).map lineD)
  congr 1
  rw [List.map_map, List.map_map]
  refine List.map_congr_left fun ds hds => ?_
  obtain ⟨q1, _, q3⟩ := words_wl (h ds hds)
  show D.lst ((Txt.split (textOf ds) " ").map D.str) = D.lst ((wordsOf ds).map D.str)
  have e : Txt.split (textOf ds) " " = wordsOf ds := split_line q1 q3
  rw [e]
abbrev tWrongs (K : PySem.W.Frag) : TE := tLc (iEnumS K (tCons (tVar 6) tNil)) (gTup K 2 (gCons (gName 17) (gCons (gName 18) gNil))) (tTest (tOp rNotN (tCall (spWrong K) [] E0 (tCons (tVar 18) tNil)) (tC .non))) (tTup (tCons (tVar 17) (tCons (tCall (spWrong K) [] E0 (tCons (tVar 18) tNil)) tNil))) [17, 18]
theorem ev_wrongs {v : V} (m : Mem S H) (hσ : σ[6]? = some (some v)) (hw : ∀ x y, wipe (((wipe σ [17, 18]).set 17 (some x)).set 18 (some y)) [17, 18] = wipe σ [17, 18]) (hg : ∀ x y, (((wipe σ [17, 18]).set 17 (some x)).set 18 (some y))[17]? = some (some x)) (hg2 : ∀ x y, (((wipe σ [17, 18]).set 17 (some x)).set 18 (some y))[18]? = some (some y))
    (r : Rp K S H v (linesD ls)) (L : LinesOk N M ls) (hN : N ≤ 20) (hM : M ≤ 20) : EvD K S (tWrongs K) σ H (.lst ((wrongsFrom ls 0).map wrD)) := by
  have hi := ei_enum m (ev_a1 (ev_var (i := 6) m hσ r)) rfl
  have hlen := L.len
  have hm := ev_lc (g := g2 K 17 18) (tt := tTest (tOp rNotN (tCall (spWrong K) [] E0 (tCons (tVar 18) tNil)) (tC .non))) (te := tTup (tCons (tVar 17) (tCons (tCall (spWrong K) [] E0 (tCons (tVar 18) tNil)) tNil))) (vs := [17, 18]) (p := wp) (f := wf) m hi
    (by show ((ls.map lineD).mapIdx _).length ≤ _; rw [List.length_mapIdx, List.length_map]; omega) (fun S' H' m' up ex x d hd rx => by
      obtain ⟨i, hi', e⟩ := List.getElem_of_mem hd
      obtain ⟨d0, h0, rfl⟩ := mapIdx_get (ds := ls.map lineD) (i := i) (d := d) (by rw [← e]; exact List.getElem?_eq_getElem hi')
      rw [List.getElem?_map, Option.map_eq_some_iff] at h0
      obtain ⟨ws, hws, rfl⟩ := h0
      obtain ⟨q1, q2, q3⟩ := L.each ws (List.mem_of_getElem? hws)
      refine g2_of rx fun a b ra rb => ⟨Evl.Ex.refl _, hw a b, ?_, fun _ => ?_⟩
      · have hwr := ev_wrong m' (ev_var (i := 18) m' (hg2 a b) rb) q1 (by omega) fun w h => (wl_ok w (q3 w h)).1
        refine (eb_T (ev_op m' hwr ev_non r_notN)).is ?_
        show (!(wrongD (lineW ws)).isNon) = (lineW (dw (lineD ws))).isSome
        rw [dw_line]
        cases lineW ws <;> rfl
      · have hwr := ev_wrong m' (ev_var (i := 18) m' (hg2 a b) rb) q1 (by omega) fun w h => (wl_ok w (q3 w h)).1
        refine (ev_tup m' (ea_cons m' (ev_var (i := 17) m' (hg a b) ra) (ev_a1 hwr)) (by show 2 ≤ _; decide)).is ?_
        show _ = D.tup [_, wrongD (lineW (dw (lineD ws)))]
        rw [dw_line]) g2_mono
  refine hm.is ?_
  have := wrongs_eq ls 0
  show D.lst ((((ls.map lineD).mapIdx fun i d => D.tup [.int ((i + 0 : Nat) : Int), d]).filter wp).map wf) = _
  rw [this]
abbrev tTextJ (K : PySem.W.Frag) (i : Nat) : TE := tM1 (rJoin K) (tC (.str "\n")) (tLc (iSeq K (tVar i)) (gName 18) tYes (tM1 (rJoin K) (tC (.str " ")) (tVar 18)) [18])
theorem ev_textj {v : V} {i : Nat} (m : Mem S H) (hσ : σ[i]? = some (some v)) (hw : ∀ x, wipe ((wipe σ [18]).set 18 (some x)) [18] = wipe σ [18]) (hg : ∀ x, ((wipe σ [18]).set 18 (some x))[18]? = some (some x))
    (r : Rp K S H v (linesD ls)) (L : LinesOk N M ls) (hN : N ≤ 20) (hM : M ≤ 20) : EvD K S (tTextJ K i) σ H (.str (textL ls)) := by
  have hi := ei_seq m (ev_var (i := i) m hσ r) rfl
  have hlen := L.len
  have hm := ev_map (i := 18) (te := tM1 (rJoin K) (tC (.str " ")) (tVar 18)) (f := fun d => .str (Txt.join " " (dw d))) m hi (by show (ls.map lineD).length ≤ _; rw [List.length_map]; omega) fun S' H' m' up ex x d hd rx => by
    obtain ⟨ws, hws, rfl⟩ := List.mem_map.mp (show d ∈ ls.map lineD from hd)
    obtain ⟨q1, q2, q3⟩ := L.each ws hws
    refine ⟨hw x, ?_⟩
    have e1 : (" " : Str).length = 1 := by decide +kernel
    have h3 := sum_le (n := 5) (l := ws) (g := fun x : Str => x.length) fun w h => (wl_ok w (q3 w h)).2
    refine (ev_join m' (ev_str (i := " ")) (ev_var (i := 18) m' (hg x) rx) (by rw [e1]; omega)).is ?_
    show _ = D.str (Txt.join " " (dw (lineD ws)))
    rw [dw_line]
  have e : D.lst ((items (linesD ls)).map fun d => .str (Txt.join " " (dw d))) = .lst ((ls.map fun ws => Txt.join " " ws).map D.str) := by
    show D.lst ((ls.map lineD).map _) = _
    congr 1
    rw [List.map_map, List.map_map]
    refine List.map_congr_left fun ws _ => ?_
    show D.str (Txt.join " " (dw (lineD ws))) = D.str (Txt.join " " ws)
    rw [dw_line]
  refine ev_join m (ev_str (i := "\n")) (hm.is e) ?_
  have e1 : ("\n" : Str).length = 1 := by decide +kernel
  have h3 := sum_le (n := 180) (l := ls.map fun ws => Txt.join " " ws) (g := fun x : Str => x.length) fun w h => by
    obtain ⟨ws, hws, rfl⟩ := List.mem_map.mp h
    have := line_len (L.each ws hws).2.2
    have := (L.each ws hws).2.1
    show (Txt.join " " ws).length ≤ 180
    omega
  rw [List.length_map] at h3
  rw [e1, List.length_map]
  omega
/-! ### equal things -/
/-- an if that asks whether two like data are unlike -/
theorem no_ne {ta tb : TE} {d : D} {u : TS} {D0 : Ends} (hp : plainD d = true) (hd : dep d ≤ 64) (h : ∀ Q : VK, Aft K T p n H d Q → ta σ H Q) (h2 : ∀ H1, LS K T p n H1 → Up K (SP p) H (SP p) H1 → EvD K (SP p) tb σ H1 d)
    (q : ∀ H1, LS K T p n H1 → Up K (SP p) H (SP p) H1 → D0.nx σ H1) : tIfS (tTest (tOp (rNeD K) ta tb)) u tNext D0 σ H := by
  refine h _ fun x H1 L1 u1 rx => ?_
  refine h2 H1 L1 u1 H1 (Evl.Ex.refl _) _ fun y H2 e2 ry => ?_
  refine r_neD (S := SP p) hp hp hd hd H2 (Evl.Ex.refl _) x y (L1.up e2 _ _ rx) ry _ fun b H3 e3 rb => ?_
  rw [eqD_refl hp] at rb
  cases rb
  refine ⟨false, rfl, ?_⟩
  show (if false = true then u D0 σ H3 else D0.nx σ H3)
  rw [if_neg Bool.false_ne_true]
  exact q H3 (L1.ex (e2.trans e3)) (u1.trans (L1.up (e2.trans e3)))
theorem prog_fix {l : List D} (h : ∀ d ∈ l, isStepD d = true) : progText (l.map fixD) = progText l := by
  match l, h with
  | [], _ => rfl
  | d :: l, h =>
    show Txt.join "\n" (((d :: l).map fixD).map fun d => textOf (itemsOfD d)) = Txt.join "\n" ((d :: l).map fun d => textOf (itemsOfD d))
    rw [List.map_map]
    congr 1
    refine List.map_congr_left fun x hx => ?_
    show textOf (itemsOfD (fixD x)) = textOf (itemsOfD x)
    rw [(fix_isStep (h x hx)).2]
theorem textD_some {d : D} {l : List D} (hq : SeqD d l) (h : ∀ x ∈ l, isStepD x = true) : textD A d = .inr (.str (progText l)) := by
  have hi : itemsOfD d = l := by rcases hq with rfl | rfl <;> rfl
  have hf : itemsOfD (fixD d) = l.map fixD := by rcases hq with rfl | rfl <;> exact fixA_map l
  unfold textD needD
  rw [if_pos (isLT_Q hq), hi, badAt_none.mpr h]
  show Sum.inr (D.str (progText (itemsOfD (fixD d)))) = _
  rw [hf, prog_fix h]
theorem ev_ptext {te : TE} {d : D} {s : Str} (m : Mem S H) (h : EvD K S te σ H d) (hin : progIn d = true) (ht : textD A d = .inr (.str s)) : EvD K S (tCall (spProgText K A) [] E0 (tCons te tNil)) σ H (.str s) := fun H1 e Q q => h H1 e _ fun v H2 e2 r2 => by
  refine ⟨S, [d], rfl, m.ex (e.trans e2), .cons r2 .nil, ⟨d, rfl, hin⟩, ?_⟩
  show (match textD A d with
    | .inr d => ∀ v H', Ex H2 H' → Rp K S H' v d → Q v H'
    | .inl x => ∀ p H', Ex H2 H' → H2 p = none → H' p = some (.xd x.2) → E0 (.ref x.1) (some p) H')
  rw [ht]
  exact fun u H3 e3 r3 => q u H3 (e2.trans e3) r3
/-! ### the inner ifs -/
abbrev tFilt (K : PySem.W.Frag) : TE := tLc (iSeq K (tOp (rIx K) (tVar 9) (tC (.int 0)))) (gName 11) (tNot (tB (tCall (spForm K) [] E0 (tCons (tVar 11) tNil)))) (tVar 11) [11]
def tIfs (K : PySem.W.Frag) (A : Ads) : TS := tIfS (tTest (tOp (rEqD K) (tVar 8) (tC (.str "-")))) (tIfS (tTest (tOp (rNeD K) (tVar 9) (tLst (tCons (tTup tNil) tNil)))) (tRet (tC (.bl false))) tNext) (tIfS (tTest (tOp (rNeD K) (tVar 7) (tLst tNil))) (tIfS (tTest (tOp (rNeD K) (tVar 9) (tTup (tCons (tC (.str "text")) (tCons (tOp (rIx K) (tOp (rIx K) (tVar 7) (tC (.int 0))) (tC (.int 0))) (tCons (tOp (rIx K) (tOp (rIx K) (tVar 7) (tC (.int 0))) (tC (.int 1))) tNil)))))) (tRet (tC (.bl false))) tNext) (tIfS (tOr (tNot (tB (tCB (rIsi K) (tCons (tVar 9) (tCons (tC (.ty "list")) tNil))))) (tOr (tTest (tOp (rNeD K) (tCall (spProgText K A) [] E0 (tCons (tOp (rIx K) (tVar 9) (tC (.int 0))) tNil)) (tVar 8))) (tTest (tOp (rNeD K) (tFilt K) (tLst tNil))))) (tRet (tC (.bl false))) tNext))
theorem in_ifs {v7 v8 v9 : V} {D0 : Ends} (L : LS K T p n H) (h7 : σ[7]? = some (some v7)) (h8 : σ[8]? = some (some v8)) (h9 : σ[9]? = some (some v9)) (hw : ∀ x, wipe ((wipe σ [11]).set 11 (some x)) [11] = wipe σ [11]) (hg : ∀ x, ((wipe σ [11]).set 11 (some x))[11]? = some (some x))
    (r7 : Rp K (SP p) H v7 (.lst ((wrongsFrom ls 0).map wrD))) (r8 : Rp K (SP p) H v8 (.str (textL ls))) (r9 : Rp K (SP p) H v9 (resRead (.str (textL ls))).d) (O : LinesOk N M ls) (hN : N ≤ 20) (hM : M ≤ 20)
    (q : ∀ H1, LS K T p n H1 → Up K (SP p) H (SP p) H1 → D0.nx σ H1) : tIfs K A D0 σ H := by
  have X := txt_ok O (by omega) (by omega)
  have he : EvB (tTest (tOp (rEqD K) (tVar 8) (tC (.str "-")))) σ H (decide (textL ls = "-")) := by
    have := eb_T (ev_op L.mem (ev_var (i := 8) L.mem h8 r8) (ev_str (i := "-")) (r_eqD (d1 := .str (textL ls)) (d2 := .str "-") X.ok (by decide +kernel) (Nat.zero_le _) (Nat.zero_le _)))
    rwa [eqD_str] at this
  unfold tIfs
  refine lt_if L he fun H1 L1 u1 => ?_
  by_cases hd : textL ls = "-"
  · rw [decide_eq_true hd, if_pos rfl]
    rw [hd, res_dash] at r9
    refine no_ne (d := .lst [.tup []]) rfl (by decide) (fun Q q => ls_pure L1 (ev_var L1.mem h9 (u1 _ _ r9)) q) (fun H2 L2 u2 => ev_lst L2.mem (ev_a1 (ev_tup L2.mem ea_nil (by show 0 ≤ _; decide))) (by show 1 ≤ _; decide)) fun H2 L2 u2 => q H2 L2 (u1.trans u2)
  · rw [decide_eq_false hd, if_neg (by decide)]
    have he2 : EvB (tTest (tOp (rNeD K) (tVar 7) (tLst tNil))) σ H1 (!decide (wrongsFrom ls 0 = [])) := by
      have := eb_T (ev_op L1.mem (ev_var (i := 7) L1.mem h7 (u1 _ _ r7)) (ev_lst L1.mem ea_nil (by show 0 ≤ _; decide)) (r_neD (d1 := .lst ((wrongsFrom ls 0).map wrD)) (d2 := .lst []) (plain_wrs _) rfl (by have := dep_wrs (wrongsFrom ls 0); show depA _ + 1 ≤ 64; omega) (by decide)))
      rwa [ne_nil_wrs] at this
    refine lt_if L1 he2 fun H2 L2 u2 => ?_
    have u12 := u1.trans u2
    have hr := res_lines O hd
    cases hwf : wrongsFrom ls 0 with
    | cons x t =>
      rw [hwf] at hr r7
      replace hr : resRead (.str (textL ls)) = .text (x.1 : Nat) (x.2 : Nat) := hr
      rw [hr] at r9
      rw [decide_eq_false (by simp), Bool.not_false, if_pos rfl]
      have e7 : ∀ {H3 : Hp}, LS K T p n H3 → Up K (SP p) H2 (SP p) H3 → EvD K (SP p) (tOp (rIx K) (tVar 7) (tC (.int 0))) σ H3 (wrD x) := fun L3 u3 => ev_op L3.mem (ev_var (i := 7) L3.mem h7 (u3 _ _ (u12 _ _ r7))) ev_int (r_ixL (j := 0) rfl)
      refine no_ne (d := .tup [.str "text", .int x.1, .int x.2]) (by show (PyData.strOk "text" && true) = true; rw [Bool.and_true]; decide +kernel) (by show max 0 (max 0 (max 0 0)) + 1 ≤ 64; decide) (fun Q q => ls_pure L2 (ev_var L2.mem h9 (u12 _ _ r9)) q)
        (fun H3 L3 u3 => ev_tup L3.mem (ea_cons L3.mem ev_str (ea_cons L3.mem (ev_op L3.mem (e7 L3 u3) ev_int (r_ixT (j := 0) rfl)) (ev_a1 (ev_op L3.mem (e7 L3 u3) ev_int (r_ixT (j := 1) rfl))))) (by show 3 ≤ _; decide)) fun H3 L3 u3 => q H3 L3 (u12.trans u3)
    | nil =>
      rw [hwf] at hr
      obtain ⟨dss, hr, R⟩ := hr
      rw [hr] at r9
      replace r9 : Rp K (SP p) H v9 (.lst [.tup (dss.map D.tup)]) := r9
      rw [decide_eq_true rfl, Bool.not_true, if_neg (by decide)]
      have m2 := L2.mem
      have r92 := u12 _ _ r9
      have hlen : dss.length ≤ 20 := by
        have := congrArg List.length R.back
        rw [List.length_map] at this
        have := O.len
        omega
      have e9 : EvD K (SP p) (tOp (rIx K) (tVar 9) (tC (.int 0))) σ H2 (.tup (dss.map D.tup)) := ev_op m2 (ev_var (i := 9) m2 h9 r92) ev_int (r_ixL (j := 0) rfl)
      have hst : ∀ x ∈ dss.map D.tup, isStepD x = true := fun x hx => by
        obtain ⟨ds, hds, rfl⟩ := List.mem_map.mp hx
        exact R.ok ds hds
      have hin : progIn (.tup (dss.map D.tup)) = true := (prog_in (fun x hx => by
        obtain ⟨ds, hds, rfl⟩ := List.mem_map.mp hx
        exact step_ok (R.ok ds hds)) (by rw [List.length_map]; omega)).2
      have ht : textD A (.tup (dss.map D.tup)) = .inr (.str (textL ls)) := by
        rw [textD_some (.inr rfl) hst, read_text R O.ne]
      have b1 : EvB (tNot (tB (tCB (rIsi K) (tCons (tVar 9) (tCons (tC (.ty "list")) tNil))))) σ H2 false := eb_not (a := true) (eb_B (r_isi (ev_var (i := 9) m2 h9 r92) trivial (ki_list rfl)))
      have b2 : EvB (tTest (tOp (rNeD K) (tCall (spProgText K A) [] E0 (tCons (tOp (rIx K) (tVar 9) (tC (.int 0))) tNil)) (tVar 8))) σ H2 false := by
        refine (eb_T (ev_op m2 (ev_ptext m2 e9 hin ht) (ev_var (i := 8) m2 h8 (u12 _ _ r8)) (r_neD (d1 := .str (textL ls)) (d2 := .str (textL ls)) X.ok X.ok (Nat.zero_le _) (Nat.zero_le _)))).is ?_
        rw [eqD_str, decide_eq_true rfl]; rfl
      have hf : EvD K (SP p) (tFilt K) σ H2 (.lst []) := by
        refine (ev_filter (i := 11) (tt := tNot (tB (tCall (spForm K) [] E0 (tCons (tVar 11) tNil)))) (te := tVar 11) (p := fun d => !isStepD d) (f := fun d => d) m2 (ei_seq m2 e9 rfl) (by show (dss.map D.tup).length ≤ _; rw [List.length_map]; omega) fun S' H' m' up ex x d hd rx => ?_).is ?_
        · obtain ⟨ds, hds, rfl⟩ := List.mem_map.mp (show d ∈ dss.map D.tup from hd)
          exact ⟨hw x, eb_not (eb_B (ev_pure m' (ev_a1 (ev_var (i := 11) m' (hg x) rx)) rfl ⟨_, rfl, (step_ok (R.ok ds hds)).1⟩)), fun _ => ev_var (i := 11) m' (hg x) rx⟩
        · show D.lst (((dss.map D.tup).filter fun d => !isStepD d).map fun d => d) = _
          rw [List.filter_eq_nil_iff.mpr fun x hx => by rw [hst x hx]; decide]
          rfl
      have b3 : EvB (tTest (tOp (rNeD K) (tFilt K) (tLst tNil))) σ H2 false := (eb_T (ev_op m2 hf (ev_lst m2 ea_nil (by show 0 ≤ _; decide)) (r_neD (d1 := .lst []) (d2 := .lst []) rfl rfl (by decide) (by decide)))).is rfl
      exact lt_no L2 ((eb_or b1 fun _ => (eb_or b2 fun _ => b3)).is rfl) fun H3 L3 u3 => q H3 L3 (u12.trans u3)
end
end Nv
set_option Elab.async false
set_option linter.all false
set_option maxRecDepth 100000
set_option maxHeartbeats 1000000
/-! The law's turns: a drawn program; what is no step. -/
namespace Nv
open PySem PySem.Spec PyProof.Rows L2 StX NvZ LamX
section
variable {K : PySem.W.Frag} {A : Ads} {T : List (Addr × Str)} {S : Addr → Prop} {σ : L2.St} {H H' : Hp} {p : Addr} {n : Nat}
theorem LS.dict (L : LS K T p n H) : ∃ kvs, H p = some (.dK kvs) := by
  obtain ⟨s, ra, ns, a, r, h1, _⟩ := L.pen
  exact ⟨_, h1⟩
/-- the pen, where a list is made -/
theorem PenAt.plus {q : Addr} (hq : H q = none) (h : PenAt K S H p n) : PenAt K (Nv.plus S q) H p n := by
  obtain ⟨s, ra, ns, a, r, h1, h2, h3⟩ := h
  exact ⟨.inl s, ra, ns, a, r, h1, h2.plus hq, h3⟩
theorem PenAt.exS {q : Addr} (ne : p ≠ q) (hs : ExS S H H') (e : ∀ b, b ≠ q → H' b = H b) (h : PenAt K S H p n) : PenAt K S H' p n := by
  obtain ⟨s, ra, ns, a, r, h1, h2, h3⟩ := h
  exact ⟨s, ra, ns, a, r, by rw [e p ne]; exact h1, h2.mono hs, h3⟩
theorem PenAt.lessP {q : Addr} (h : PenAt K (Nv.plus (SP p) q) H p n) : PenAt K (SP p) H p n := by
  obtain ⟨s, ra, ns, a, r, h1, h2, h3⟩ := h
  exact ⟨rfl, ra, ns, a, r, h1, h2.less fun _ z => .inl z, h3⟩
abbrev tProg (K : PySem.W.Frag) : TE := tLc (iRng1 (tCons (tOp rAddI (tC (.int 1)) (tCall (spDraw K) [] E0 (tCons (tVar 1) (tCons (tC (.int 5)) tNil)))) tNil)) (gName 5) tYes (tCall (spAny K) [] E0 (tCons (tVar 1) tNil)) [5]
structure Mk (K : PySem.W.Frag) (p q : Addr) (n : Nat) (H1 : Hp) (i : Nat) (H' : Hp) (acc : List V) (dss : List (List D)) : Prop where
  ex : Ex1 p H1 H'
  mem : Mem (plus (SP p) q) H'
  pen : PenAt K (plus (SP p) q) H' p (n + 5 * i)
  lst : H' q = some (.lst acc)
  len : dss.length = i
  ok : ∀ ds ∈ dss, stepL ds = true
  arr : RpA K (plus (SP p) q) H' acc (dss.map D.tup)
theorem ls_prog {Q : VK} (L : LS K T p n H) (hσ : σ[1]? = some (some (.ref p))) (hw : ∀ x, wipe ((wipe σ [5]).set 5 (some x)) [5] = wipe σ [5]) (hg : ∀ x, ((wipe σ [5]).set 5 (some x))[1]? = some (some (.ref p))) (hn : n ≤ 900000)
    (q : ∀ dss : List (List D), dss ≠ [] → dss.length ≤ 5 → (∀ ds ∈ dss, stepL ds = true) → Aft K T p (n + 30) H (.lst (dss.map D.tup)) Q) : tProg K σ H Q := by
  refine ls_draw L hσ (by omega) (ev_int (i := 5)) (by decide) (by decide) fun k k0 k1 v H1 L1 u1 r1 => ?_
  cases r1
  refine ⟨1, k, rfl, rfl, 1 + k, rfl, by omega, by omega, fun D hD => ?_⟩
  obtain ⟨c, hc⟩ : ∃ c : Nat, (1 + k).toNat = c := ⟨_, rfl⟩
  have c1 : 1 ≤ c ∧ c ≤ 5 := by omega
  rw [hc]
  obtain ⟨kvs, hkv⟩ := L1.dict
  have npD : p ≠ D := fun z => by rw [z, hD] at hkv; cases hkv
  have eN : Ex H1 (upd H1 D (.lst [])) := Evl.Ex.new hD
  have m0 : Mem (plus (SP p) D) (upd H1 D (.lst [])) := fun b s => by
    rcases s with s | s
    · obtain ⟨o, h⟩ := L1.mem b s
      exact ⟨o, eN _ _ h⟩
    · exact ⟨_, by rw [s]; exact upd_same⟩
  have M0 : Mk K p D (n + 1) H1 0 (upd H1 D (.lst [])) [] [] := by
    refine ⟨Ex.ex1 eN, m0, ?_, upd_same, rfl, fun _ h => (nomatch h), .nil⟩
    have h := L1.pen.plus hD
    obtain ⟨s, ra, ns, a, r, h1, h2, h3⟩ := h
    exact ⟨s, ra, ns, a, r, eN _ _ h1, h2.mono ⟨fun a o n h => eN _ _ h, m0⟩, h3⟩
  refine ⟨fun i m H' => m = c - i ∧ i ≤ c ∧ ∃ acc dss, Mk K p D (n + 1) H1 i H' acc dss, ⟨c, rfl, Nat.zero_le _, _, _, M0⟩, ?_⟩
  rintro i m H' ⟨rfl, hi, acc, dss, M⟩
  by_cases hlt : i < c
  · refine .inr ⟨hlt, fun H'' => ∃ acc dss, Mk K p D (n + 1) H1 (i + 1) H'' acc dss, fun H'' h => ⟨c - (i + 1), by omega, rfl, hlt, h⟩, fun x H'' y => ?_⟩
    obtain ⟨rfl, rfl⟩ : H'' = H' ∧ x = .int (0 + i) := y
    refine ⟨hw _, ?_⟩
    show (if true = true then _ else ∃ acc dss, Mk K p D (n + 1) H1 (i + 1) H'' acc dss)
    rw [if_pos rfl]
    refine ⟨_, hg _, plus (SP p) D, p, n + 1 + 5 * i, rfl, M.mem, M.pen, by omega, fun ds v H4 hs e4 m4 p4 r4 => ?_⟩
    have hl4 : H4 D = some (.lst acc) := e4 _ _ (Ne.symm npD) M.lst
    have hal : acc.length = i := by rw [M.arr.length, List.length_map, M.len]
    have x4 : ExS (plus (SP p) D) H'' H4 := Ex1.exS M.mem (.inl rfl) e4 p4.there
    have x5 : ExS (plus (SP p) D) H4 (upd H4 D (.lst (acc ++ [v]))) := ExS.put m4 (.inr rfl)
    refine ⟨acc, hl4, by rw [sizeLine_eq]; omega, acc ++ [v], dss ++ [ds], ⟨fun b o nb hb => ?_, x5.mem, ?_, upd_same, by rw [List.length_append, M.len]; rfl, fun x hx => ?_, ?_⟩⟩
    · rw [upd_ne (fun z => by rw [z, hD] at hb; cases hb)]
      exact (M.ex.trans e4) b o nb hb
    · have e : n + 1 + 5 * (i + 1) = n + 1 + 5 * i + 5 := by omega
      rw [e]
      exact p4.exS npD x5 fun b nb => upd_ne nb
    · rcases List.mem_append.mp hx with hx | hx
      · exact M.ok x hx
      · have : x = ds := by simpa using hx
        rw [this]; exact hs
    · rw [List.map_append]
      exact ((M.arr.mono x4).mono x5).app (.cons (r4.mono x5) .nil)
  · have e : i = c := by omega
    subst e
    refine .inl ⟨Nat.le_refl _, ?_⟩
    have hlen := M.len
    have pn : PenAt K (SP p) H' p (n + 30) := PenAt.le M.pen.lessP (by omega)
    obtain ⟨L2, u2⟩ := L1.ex1 M.ex pn
    refine q dss (fun z => by rw [z] at hlen; simp at hlen; omega) (by omega) M.ok (.ref D) H' L2 (u1.trans u2) (.lst ⟨M.lst, fun z => npD z.symm⟩ (M.arr.less fun _ z => .inl z))
/-! ### tuples of any kind -/
theorem r_catA {ds es : List D} (m : Mem S H) (h1 : es ≠ []) (hz : ds.length + es.length ≤ 100000) : R2D K S (rCatA K) H (.tup ds) (.tup es) (.tup (ds ++ es)) := fun H1 e x y rx ry Q q => by
  cases rx with
  | @tup a xs _ g1 g2 =>
    cases ry with
    | @tup b ys _ g3 g4 =>
      have n2 : ys ≠ [] := fun z => h1 (by
        have := g4.length
        rw [z] at this
        exact List.length_eq_zero_iff.mp this.symm)
      refine ⟨a, b, xs, ys, rfl, rfl, g1.sq, g3.sq, by rw [g2.length, g4.length, sizeLine_eq]; omega, fun z => ?_, fun _ z => absurd z n2, fun _ _ t ht => q _ _ (Evl.Ex.new ht) (.newT (m.ex e) (g2.app g4) ht)⟩
      have : ds = [] := by
        have := g2.length
        rw [z] at this
        exact List.length_eq_zero_iff.mp this.symm
      subst this
      exact q _ _ (Evl.Ex.refl _) (.tup g3 g4)
theorem ra_listOf {ds : List D} (m : Mem S H) : RAD K S (rListOf K) H [.tup ds] (.lst ds) := fun H1 e vs r Q q => by
  cases r with
  | cons r rn =>
    cases rn
    cases r with
    | @tup a xs _ h1 h2 => exact ⟨a, xs, rfl, .inr h1.sq, fun l hl => q _ _ (Evl.Ex.new hl) (.newL (m.ex e) h2 hl)⟩
theorem ev_dnew (m : Mem S H) : EvD K S tDNewK σ H .dic := fun H1 e Q q => fun d hd => q _ _ (Evl.Ex.new hd) (.dic upd_same ((m.ex e).new hd))
theorem ev_neg {te : TE} {i : Int} (h : EvD K S te σ H (.int i)) : EvD K S (tUn rNeg te) σ H (.int (-i)) := fun H1 e Q q => h H1 e _ fun v H2 e2 r2 => by
  cases r2
  exact ⟨i, rfl, q _ H2 e2 (.int _)⟩
abbrev tOdd (K : PySem.W.Frag) : TE := tLst (tCons (tC .non) (tCons (tC (.int 5)) (tCons (tC (.str "drop")) (tCons (tTup tNil) (tCons (tOp (rCatA K) (tVar 11) (tTup (tCons (tC (.int 0)) tNil))) (tCons (tOp (rCatA K) (tSl (rSl K) (tVar 11) tNoPart (tPart (tUn rNeg (tC (.int 1))))) (tTup (tCons (tC (.bl true)) tNil))) (tCons (tTup (tCons (tC (.str "drop")) (tCons (tC (.int 4)) tNil))) (tCons (tTup (tCons (tC (.str "new")) (tCons (tC (.int 0)) (tCons (tC (.int 3)) tNil)))) (tCons (tTup (tCons (tC (.str "copy")) (tCons (tC (.int 2)) (tCons (tC (.int 2)) tNil)))) (tCons (tTup (tCons (tC (.str "write")) (tCons (tC .non) (tCons (tC (.int 0)) (tCons (tC (.int 0)) tNil))))) tNil))))))))))
theorem ev_odd {v : V} {ds : List D} (m : Mem S H) (hσ : σ[11]? = some (some v)) (r : Rp K S H v (.tup ds)) (h1 : 1 ≤ ds.length) (h4 : ds.length ≤ 4) : EvD K S (tOdd K) σ H (.lst (oddD ds)) := by
  have e11 : EvD K S (tVar 11) σ H (.tup ds) := ev_var (i := 11) m hσ r
  have c1 : EvD K S (tOp (rCatA K) (tVar 11) (tTup (tCons (tC (.int 0)) tNil))) σ H (.tup (ds ++ [.int 0])) := ev_op m e11 (ev_tup m (ev_a1 ev_int) (by show 1 ≤ _; decide)) (r_catA m (by simp) (by show _ + 1 ≤ _; omega))
  have c2 : EvD K S (tSl (rSl K) (tVar 11) tNoPart (tPart (tUn rNeg (tC (.int 1))))) σ H (.tup (ds.take (ds.length - 1))) := by
    have := ev_slT m e11 eo_none (eo_some (ev_neg (K := K) (S := S) (ev_int (i := 1)))) (fun z => by
      have z2 := z.2
      have e : HT.sIx ds.length ds.length (some (-1)) = ds.length - 1 := by
        have h := cut_last (ds := ds)
        unfold cutD at h
        have h2 := congrArg List.length h
        simp only [List.length_take, List.length_drop] at h2
        have s0 : HT.sIx ds.length 0 none = 0 := rfl
        rw [s0] at h2
        omega
      have z3 : HT.sIx ds.length ds.length (some (-1)) = ds.length := z2
      omega)
    rwa [show ((-1 : Int)) = (-1) from rfl, cut_last] at this
  have c3 : EvD K S (tOp (rCatA K) (tSl (rSl K) (tVar 11) tNoPart (tPart (tUn rNeg (tC (.int 1))))) (tTup (tCons (tC (.bl true)) tNil))) σ H (.tup (ds.take (ds.length - 1) ++ [.bl true])) := ev_op m c2 (ev_tup m (ev_a1 ev_bl) (by show 1 ≤ _; decide)) (r_catA m (by simp) (by rw [List.length_take]; show _ + 1 ≤ _; omega))
  have t2 : ∀ {a b : D} {x y : V}, (∀ H1, Rp K S H1 x a) → (∀ H1, Rp K S H1 y b) → EvD K S (tTup (tCons (tC x) (tCons (tC y) tNil))) σ H (.tup [a, b]) := fun ha hb => ev_tup m (ea_cons m (ev_c ha) (ev_a1 (ev_c hb))) (by show 2 ≤ _; decide)
  have t3 : ∀ {a b c : D} {x y z : V}, (∀ H1, Rp K S H1 x a) → (∀ H1, Rp K S H1 y b) → (∀ H1, Rp K S H1 z c) → EvD K S (tTup (tCons (tC x) (tCons (tC y) (tCons (tC z) tNil)))) σ H (.tup [a, b, c]) := fun ha hb hc => ev_tup m (ea_cons m (ev_c ha) (ea_cons m (ev_c hb) (ev_a1 (ev_c hc)))) (by show 3 ≤ _; decide)
  have t4 : ∀ {a b c d : D} {x y z u : V}, (∀ H1, Rp K S H1 x a) → (∀ H1, Rp K S H1 y b) → (∀ H1, Rp K S H1 z c) → (∀ H1, Rp K S H1 u d) → EvD K S (tTup (tCons (tC x) (tCons (tC y) (tCons (tC z) (tCons (tC u) tNil))))) σ H (.tup [a, b, c, d]) := fun ha hb hc hd => ev_tup m (ea_cons m (ev_c ha) (ea_cons m (ev_c hb) (ea_cons m (ev_c hc) (ev_a1 (ev_c hd))))) (by show 4 ≤ _; decide)
  exact ev_lst m (ea_cons m ev_non (ea_cons m ev_int (ea_cons m ev_str (ea_cons m (ev_tup m ea_nil (by show 0 ≤ _; decide)) (ea_cons m c1 (ea_cons m c3 (ea_cons m (t2 (fun _ => .str _) fun _ => .int _) (ea_cons m (t3 (fun _ => .str _) (fun _ => .int _) fun _ => .int _)
    (ea_cons m (t3 (fun _ => .str _) (fun _ => .int _) fun _ => .int _) (ev_a1 (t4 (fun _ => .str _) (fun _ => .non) (fun _ => .int _) fun _ => .int _))))))))))) (by show 10 ≤ _; decide)
abbrev tMore (K : PySem.W.Frag) : TE := tOp rCat (tVar 12) (tLst (tCons (tTup (tCons (tC (.str "tick")) (tCons (tC .non) tNil))) (tCons tDNewK (tCons (tLst (tCons (tCB (rListOf K) (tCons (tVar 11) tNil)) tNil)) (tCons (tTup (tCons (tC (.str "read")) (tCons (tC (.int 0)) (tCons (tC (.int 0)) (tCons (tC (.int 2)) tNil))))) tNil)))))
theorem ev_more {v v2 : V} {ds : List D} (m : Mem S H) (hσ : σ[11]? = some (some v)) (h12 : σ[12]? = some (some v2)) (r : Rp K S H v (.tup ds)) (r2 : Rp K S H v2 (.lst (oddD ds))) (h4 : ds.length ≤ 4) : EvD K S (tMore K) σ H (.lst (oddD ds ++ moreD ds)) := by
  refine ev_op m (ev_var (i := 12) m h12 r2) (ev_lst m (ds := moreD ds) (ea_cons m (ev_tup m (ea_cons m ev_str (ev_a1 ev_non)) (by show 2 ≤ _; decide)) (ea_cons m (ev_dnew m) (ea_cons m (ev_lst m (ev_a1 (ev_cb (ev_a1 (ev_var (i := 11) m hσ r)) (ra_listOf m))) (by show 1 ≤ _; decide)) (ev_a1 (ev_tup m (ea_cons m ev_str (ea_cons m ev_int (ea_cons m ev_int (ev_a1 ev_int)))) (by show 4 ≤ _; decide)))))) (by show 4 ≤ _; decide)) (r_cat m (by show 10 + 4 ≤ _; decide))
abbrev tSome (K : PySem.W.Frag) : TE := tOp rCat (tOp rCat (tSl (rSl K) (tVar 3) tNoPart (tPart (tVar 10))) (tLst (tCons (tVar 13) tNil))) (tSl (rSl K) (tVar 3) (tPart (tVar 10)) tNoPart)
theorem ev_some {v3 v13 : V} {ds : List D} {d : D} {at_ : Nat} (m : Mem S H) (h3 : σ[3]? = some (some v3)) (h10 : σ[10]? = some (some (.int at_))) (h13 : σ[13]? = some (some v13)) (r3 : Rp K S H v3 (.lst ds)) (r13 : Rp K S H v13 d) (hl : ds.length ≤ 100) (ha : at_ ≤ ds.length) :
    EvD K S (tSome K) σ H (.lst (ds.take at_ ++ [d] ++ ds.drop at_)) := by
  have e3 : EvD K S (tVar 3) σ H (.lst ds) := ev_var (i := 3) m h3 r3
  have e10 : EvD K S (tVar 10) σ H (.int at_) := ev_var (i := 10) m h10 (.int _)
  have c1 := ev_slL m e3 eo_none (eo_some e10)
  rw [cut_to'] at c1
  have c2 := ev_slL m e3 (eo_some e10) eo_none
  rw [cut_from ha] at c2
  have l1 : (ds.take at_).length ≤ 100 := by rw [List.length_take]; omega
  have l2 : (ds.drop at_).length ≤ 100 := by rw [List.length_drop]; omega
  exact ev_op m (ev_op m c1 (ev_lst m (ev_a1 (ev_var (i := 13) m h13 r13)) (by show 1 ≤ _; decide)) (r_cat m (by show _ + 1 ≤ _; omega))) c2 (r_cat m (by rw [List.length_append]; show _ + 1 + _ ≤ _; omega))
abbrev tDue (K : PySem.W.Frag) : TE := tLc (iEnumS K (tCons (tVar 14) tNil)) (gTup K 2 (gCons (gName 19) (gCons (gName 20) gNil))) (tNot (tB (tCall (spForm K) [] E0 (tCons (tVar 20) tNil)))) (tVar 19) [19, 20]
theorem ev_due {v : V} {ds : List D} (m : Mem S H) (hσ : σ[14]? = some (some v)) (hw : ∀ x y, wipe (((wipe σ [19, 20]).set 19 (some x)).set 20 (some y)) [19, 20] = wipe σ [19, 20]) (hg : ∀ x y, (((wipe σ [19, 20]).set 19 (some x)).set 20 (some y))[19]? = some (some x)) (hg2 : ∀ x y, (((wipe σ [19, 20]).set 19 (some x)).set 20 (some y))[20]? = some (some y))
    (r : Rp K S H v (.lst ds)) (hl : ds.length ≤ 1000) (ok : ∀ d ∈ ds, SomeOk d) : ∃ is : List Int, EvD K S (tDue K) σ H (.lst (is.map D.int)) ∧ match badAt ds with
      | some i => ∃ t, is = (i : Int) :: t
      | none => is = [] := by
  have hi := ei_enum m (ev_a1 (ev_var (i := 14) m hσ r)) rfl
  have hm := ev_lc (g := g2 K 19 20) (tt := tNot (tB (tCall (spForm K) [] E0 (tCons (tVar 20) tNil)))) (te := tVar 19) (vs := [19, 20]) (p := Nv.dp) (f := df) m hi
    (by show (ds.mapIdx _).length ≤ _; rw [List.length_mapIdx]; omega) (fun S' H' m' up ex x d hd rx => by
      obtain ⟨i, hi', e⟩ := List.getElem_of_mem hd
      obtain ⟨d0, h0, rfl⟩ := mapIdx_get (ds := ds) (i := i) (d := d) (by rw [← e]; exact List.getElem?_eq_getElem hi')
      refine g2_of rx fun a b ra rb => ⟨Evl.Ex.refl _, hw a b, eb_not (eb_B (ev_pure m' (ev_a1 (ev_var (i := 20) m' (hg2 a b) rb)) rfl ⟨_, rfl, (ok d0 (List.mem_of_getElem? h0)).1⟩)), fun _ => ev_var (i := 19) m' (hg a b) ra⟩) g2_mono
  obtain ⟨is, h1, h2⟩ := due_eq ds 0
  refine ⟨is, hm.is ?_, h2⟩
  show D.lst (((ds.mapIdx fun i d => D.tup [.int ((i + 0 : Nat) : Int), d]).filter Nv.dp).map df) = _
  rw [h1]
end
end Nv
set_option Elab.async false
set_option linter.all false
set_option maxRecDepth 100000
set_option maxHeartbeats 1000000
/-! The law's inner turn; loops over ranges. -/
namespace Nv
open PySem PySem.Spec PyProof.Rows L2 StX NvZ LamX
section
variable {K : PySem.W.Frag} {A : Ads} {T : List (Addr × Str)} {S : Addr → Prop} {σ : L2.St} {H H' : Hp} {p : Addr} {n : Nat} {ls : List (List Str)} {N M : Nat}
theorem LinesOk.mono {N' M' : Nat} (h : LinesOk N M ls) (hN : N ≤ N') (hM : M ≤ M') : LinesOk N' M' ls := ⟨h.ne, Nat.le_trans h.len hN, fun ws hw => ⟨(h.each ws hw).1, Nat.le_trans (h.each ws hw).2.1 hM, (h.each ws hw).2.2⟩⟩
theorem lt_seq {t r : TS} {D0 : Ends} (h : t { D0 with nx := r D0 } σ H) : tSeq t r D0 σ H := h
/-- for name in range(c), c written -/
theorem ts_loop {i : Nat} {c : Int} {cnt : Nat} {tb r : TS} {D0 : Ends} (hc : c.toNat = cnt) (c0 : 0 ≤ c) (c1 : c ≤ 1000) (Pv : Nat → L2.St → Hp → Prop) (h0 : Pv 0 σ H)
    (hs : ∀ j σ' H', j < cnt → Pv j σ' H' → ∀ (E : Ends) (x : V), E.nx = Pv (j + 1) → tb E (σ'.set i (some x)) H') (hd : ∀ σ' H', Pv cnt σ' H' → r D0 σ' H') : tSeq (tFor (iRng1 (tCons (tC (.int c)) tNil)) (gName i) tb) r D0 σ H := by
  refine ⟨c, rfl, by omega, by omega, ?_⟩
  rw [hc]
  refine ⟨fun j m σ' H' => m = cnt - j ∧ j ≤ cnt ∧ Pv j σ' H', ⟨cnt, rfl, Nat.zero_le _, h0⟩, ?_⟩
  rintro j m σ' H' ⟨rfl, hj, hp⟩
  by_cases hlt : j < cnt
  · refine .inr ⟨hlt, Pv (j + 1), fun σ2 H2 h => ⟨cnt - (j + 1), by omega, rfl, hlt, h⟩, fun x H'' y => ?_⟩
    obtain ⟨rfl, rfl⟩ : H'' = H' ∧ x = .int (0 + j) := y
    exact hs j σ' H'' hlt hp _ _ rfl
  · have e : j = cnt := by omega
    subst e
    exact .inl ⟨Nat.le_refl _, hd σ' H' hp⟩
theorem tC_intro {v : V} {Q : VK} (h : Q v H) : tC v σ H Q := h
theorem len21 : ∀ {σ : L2.St}, σ.length = 21 → ∃ s0 s1 s2 s3 s4 s5 s6 s7 s8 s9 s10 s11 s12 s13 s14 s15 s16 s17 s18 s19 s20, σ = [s0, s1, s2, s3, s4, s5, s6, s7, s8, s9, s10, s11, s12, s13, s14, s15, s16, s17, s18, s19, s20]
  | [s0, s1, s2, s3, s4, s5, s6, s7, s8, s9, s10, s11, s12, s13, s14, s15, s16, s17, s18, s19, s20], _ => ⟨s0, s1, s2, s3, s4, s5, s6, s7, s8, s9, s10, s11, s12, s13, s14, s15, s16, s17, s18, s19, s20, rfl⟩
/-- the law's slots in the inner loop -/
structure Sg (σ : L2.St) (p : Addr) (vp vl : V) : Prop where
  len : σ.length = 21
  pen : σ[1]? = some (some (.ref p))
  prog : σ[3]? = some (some vp)
  lines : σ[4]? = some (some vl)
theorem Sg.set {vp vl : V} {i : Nat} {x : Option V} (h : Sg σ p vp vl) (h1 : i ≠ 1) (h3 : i ≠ 3) (h4 : i ≠ 4) : Sg (σ.set i x) p vp vl :=
  ⟨by rw [List.length_set]; exact h.len, by rw [List.getElem?_set_ne h1]; exact h.pen, by rw [List.getElem?_set_ne h3]; exact h.prog, by rw [List.getElem?_set_ne h4]; exact h.lines⟩
def tIn (K : PySem.W.Frag) (A : Ads) (T : List (Addr × Str)) : TS := tSeq (tAsg (tCall (spBent K) [] E0 (tCons (tVar 1) (tCons (tVar 4) tNil))) (gName 6))
  (tSeq (tAsg (tIf (tTest (tOp (rEqD K) (tCall (spDraw K) [] E0 (tCons (tVar 1) (tCons (tC (.int 4)) tNil))) (tC (.int 0)))) (tCall (spBent K) [] E0 (tCons (tVar 1) (tCons (tVar 6) tNil))) (tVar 6)) (gName 6))
  (tSeq (tAsg (tWrongs K) (gName 7))
  (tSeq (tAsg (tTextJ K 6) (gName 8))
  (tSeq (tAsg (tLam T (TTh K A) fun E => (tCall (spRead K A) [] E (tCons (tVar 8) tNil))) (gName 9))
  (tIfs K A)))))
/-- behind the bending -/
theorem in_rest {vp vl v6 : V} {D0 : Ends} (L : LS K T p n H) (G : Sg σ p vp vl) (h6 : σ[6]? = some (some v6)) (r6 : Rp K (SP p) H v6 (linesD ls)) (O : LinesOk 7 6 ls)
    (q : ∀ σ' H', Sg σ' p vp vl → LS K T p n H' → Up K (SP p) H (SP p) H' → D0.nx σ' H') : (tSeq (tAsg (tWrongs K) (gName 7))
  (tSeq (tAsg (tTextJ K 6) (gName 8))
  (tSeq (tAsg (tLam T (TTh K A) fun E => (tCall (spRead K A) [] E (tCons (tVar 8) tNil))) (gName 9))
  (tIfs K A)))) D0 σ H := by
  obtain ⟨s0, s1, s2, s3, s4, s5, s6, s7, s8, s9, s10, s11, s12, s13, s14, s15, s16, s17, s18, s19, s20, rfl⟩ := len21 G.len
  refine lt_setP L (ev_wrongs L.mem h6 (fun _ _ => rfl) (fun _ _ => rfl) (fun _ _ => rfl) r6 O (by decide) (by decide)) fun v7 H1 L1 u1 r7 => ?_
  refine lt_setP L1 (ev_textj (i := 6) L1.mem h6 (fun _ => rfl) (fun _ => rfl) (u1 _ _ r6) O (by decide) (by decide)) fun v8 H2 L2 u2 r8 => ?_
  refine lt_set (ls_read L2 (fun H3 L3 u3 => ev_var (i := 8) L3.mem rfl (u3 _ _ r8)) (txt_ok O (by decide) (by decide)) fun v9 H3 L3 u3 r9 => ?_)
  refine in_ifs L3 (v7 := v7) (v8 := v8) (v9 := v9) rfl rfl rfl (fun _ => rfl) (fun _ => rfl) (u3 _ _ (u2 _ _ r7)) (u3 _ _ r8) r9 O (by decide) (by decide) fun H4 L4 u4 => ?_
  exact q _ H4 (((G.set (by decide) (by decide) (by decide)).set (by decide) (by decide) (by decide)).set (by decide) (by decide) (by decide)) L4 (((u1.trans u2).trans u3).trans u4)
theorem in_turn {vp vl : V} {D0 : Ends} (L : LS K T p n H) (G : Sg σ p vp vl) (hn : n ≤ 900000) (rl : Rp K (SP p) H vl (linesD ls)) (O : LinesOk 5 4 ls)
    (q : ∀ σ' H', Sg σ' p vp vl → LS K T p (n + 10) H' → Up K (SP p) H (SP p) H' → D0.nx σ' H') : tIn K A T D0 σ H := by
  unfold tIn
  refine lt_set (ls_bent (i := 1) L G.pen (by omega) (ev_var (i := 4) L.mem G.lines rl) O (by decide) (by decide) fun l1 O1 v1 H1 L1 u1 r1 => ?_)
  have G1 : Sg (σ.set 6 (some v1)) p vp vl := G.set (by decide) (by decide) (by decide)
  have h6 : (σ.set 6 (some v1))[6]? = some (some v1) := by rw [List.getElem?_set_self (by rw [G.len]; decide)]
  have rest : ∀ (l2 : List (List Str)) (v2 : V) (H3 : Hp), LinesOk 7 6 l2 → LS K T p (n + 10) H3 → Up K (SP p) H (SP p) H3 → Rp K (SP p) H3 v2 (linesD l2) → (tSeq (tAsg (tWrongs K) (gName 7))
  (tSeq (tAsg (tTextJ K 6) (gName 8))
  (tSeq (tAsg (tLam T (TTh K A) fun E => (tCall (spRead K A) [] E (tCons (tVar 8) tNil))) (gName 9))
  (tIfs K A)))) D0 ((σ.set 6 (some v1)).set 6 (some v2)) H3 := fun l2 v2 H3 O2 L3 u3 r2 =>
    in_rest L3 (G1.set (by decide) (by decide) (by decide)) (by rw [List.getElem?_set_self (by rw [G1.len]; decide)]) r2 O2 fun σ' H4 G4 L4 u4 => q σ' H4 G4 L4 (u3.trans u4)
  refine lt_set ?_
  refine ls_draw (i := 1) L1 G1.pen (by omega) (ev_int (i := 4)) (by decide) (by decide) fun k k0 k1 v H2 L2 u2 r2 => ?_
  cases r2
  refine tC_intro ?_
  refine r_eqD (S := SP p) (d1 := .int k) (d2 := .int 0) rfl rfl (Nat.zero_le _) (Nat.zero_le _) H2 (Evl.Ex.refl _) _ _ (.int k) (.int 0) _ fun b H3 e3 rb => ?_
  rw [eqD_int] at rb
  cases rb
  refine ⟨decide (k = 0), rfl, ?_⟩
  dsimp only
  have L3 := L2.ex e3
  have u3 := (u1.trans u2).trans (L2.up e3)
  by_cases hk : k = 0
  · rw [if_pos (decide_eq_true hk)]
    refine ls_bent (i := 1) L3 G1.pen (by omega) (ev_var (i := 6) L3.mem h6 (u2.trans (L2.up e3) _ _ r1)) O1 (by decide) (by decide) fun l2 O2 v2 H4 L4 u4 r4 => ?_
    exact rest l2 v2 H4 O2 (L4.le (by omega)) (u3.trans u4) r4
  · rw [if_neg (by simpa using hk)]
    exact ⟨v1, h6, rest l1 v1 H3 (O1.mono (by decide) (by decide)) (L3.le (by omega)) u3 (u2.trans (L2.up e3) _ _ r1)⟩
/-! ### more readings -/
theorem ls_lst2 {ta tb : TE} {d1 d2 : D} {Q : VK} (h1 : ∀ Q : VK, Aft K T p n H d1 Q → ta σ H Q) (h2 : ∀ H1, LS K T p n H1 → Up K (SP p) H (SP p) H1 → ∀ Q : VK, Aft K T p n H1 d2 Q → tb σ H1 Q) (q : Aft K T p n H (.lst [d1, d2]) Q) : tLst (tCons ta (tCons tb tNil)) σ H Q :=
  h1 _ fun x H1 L1 u1 rx => h2 H1 L1 u1 _ fun y H2 L2 u2 ry => ⟨small (by show 2 ≤ _; decide), fun t ht => q _ _ (L2.ex (Evl.Ex.new ht)) ((u1.trans u2).trans (L2.up (Evl.Ex.new ht))) (.newL L2.mem (.cons (u2 _ _ rx) (.cons ry .nil)) ht)⟩
def nonesD : List D := [.non, .int 5, .str "tick", .dic, .bl true]
def noneD : D → D
  | .str _ => .int 5
  | d => d
abbrev tNone (K : PySem.W.Frag) : TE := tIf (tTest (tOp (rNeE K) (tVar 16) (tC (.str "tick")))) (tVar 16) (tC (.int 5))
theorem r_neE {d1 d2 : D} {b : Bool} (p1 : plainD d1 = true) (p2 : plainD d2 = true) (h1 : dep d1 ≤ 64) (h2 : dep d2 ≤ 64) (hb : (!eqD d1 d2) = b) : R2D K S (rNeE K) H d1 d2 (.bl b) := fun H1 e x y rx ry Q q => .inl (r_neD p1 p2 h1 h2 H1 e x y rx ry Q fun v H2 e2 r2 => q v H2 e2 (by rw [← hb]; exact r2))
theorem r_neEd {t : Str} : R2D K S (rNeE K) H .dic (.str t) (.bl true) := fun H1 e x y rx ry Q q => by
  cases rx with
  | @dic a kvs h1 h2 =>
    cases ry
    exact .inr ⟨a, kvs, t, rfl, rfl, h1, q _ H1 (Evl.Ex.refl _) (.bl true)⟩
theorem ev_none {v : V} {d : D} (m : Mem S H) (h16 : σ[16]? = some (some v)) (hd : d ∈ nonesD) (r : Rp K S H v d) : EvD K S (tNone K) σ H (noneD d) := by
  have e16 : EvD K S (tVar 16) σ H d := ev_var (i := 16) m h16 r
  have ne : ∀ {b : Bool}, R2D K S (rNeE K) H d (.str "tick") (.bl b) → EvB (tTest (tOp (rNeE K) (tVar 16) (tC (.str "tick")))) σ H b := fun h => eb_T (ev_op m e16 (ev_str (i := "tick")) h)
  have hd' : d = .non ∨ d = .int 5 ∨ d = .str "tick" ∨ d = .dic ∨ d = .bl true := by simpa [nonesD] using hd
  have ok : plainD (.str "tick") = true := by show PyData.strOk "tick" = true; decide +kernel
  rcases hd' with rfl | rfl | rfl | rfl | rfl
  · exact ev_if (b := true) (ne (r_neE rfl ok (Nat.zero_le _) (Nat.zero_le _) rfl)) (fun _ => e16) fun z => nomatch z
  · exact ev_if (b := true) (ne (r_neE rfl ok (Nat.zero_le _) (Nat.zero_le _) rfl)) (fun _ => e16) fun z => nomatch z
  · exact ev_if (b := false) (ne (r_neE ok ok (Nat.zero_le _) (Nat.zero_le _) (by rw [eqD_refl ok]; rfl))) (fun z => nomatch z) fun _ => ev_int
  · exact ev_if (b := true) (ne r_neEd) (fun _ => e16) fun z => nomatch z
  · exact ev_if (b := true) (ne (r_neE rfl ok (Nat.zero_le _) (Nat.zero_le _) rfl)) (fun _ => e16) fun z => nomatch z
theorem none_facts {d : D} (hd : d ∈ nonesD) : progIn d = true ∧ resText d = .prog (-1) ∧ textIn (noneD d) ∧ resRead (noneD d) = .text (0 : Nat) (0 : Nat) := by
  have hd' : d = .non ∨ d = .int 5 ∨ d = .str "tick" ∨ d = .dic ∨ d = .bl true := by simpa [nonesD] using hd
  rcases hd' with rfl | rfl | rfl | rfl | rfl <;> exact ⟨rfl, rfl, trivial, rfl⟩
end
end Nv
set_option Elab.async false
set_option linter.all false
set_option maxRecDepth 100000
set_option maxHeartbeats 1000000
/-! The law's outer turn. -/
namespace Nv
open PySem PySem.Spec PyProof.Rows L2 StX NvZ LamX
section
variable {K : PySem.W.Frag} {A : Ads} {T : List (Addr × Str)} {S : Addr → Prop} {σ : L2.St} {H H' : Hp} {p : Addr} {n : Nat}
abbrev tReadL (K : PySem.W.Frag) (A : Ads) (T : List (Addr × Str)) (te : TE) : TE := tLam T (TTh K A) fun E => (tCall (spRead K A) [] E (tCons te tNil))
abbrev tTextL (K : PySem.W.Frag) (A : Ads) (T : List (Addr × Str)) (te : TE) : TE := tLam T (TTh K A) fun E => (tCall (spProgText K A) [] E (tCons te tNil))
abbrev tT3 (a : Int) (te : TE) (b : Int) : TE := tTup (tCons (tC (.str "text")) (tCons te (tCons (tC (.int b)) tNil)))
def tMidB (K : PySem.W.Frag) (A : Ads) (T : List (Addr × Str)) : TS := (tSeq (tAsg (tCall (spPick K) [] E0 (tCons (tVar 1) (tCons (tLst (tCons (tC .non) (tCons (tC (.int 5)) (tCons (tC (.str "tick")) (tCons tDNewK (tCons (tC (.bl true)) tNil)))))) tNil))) (gName 16))
  (tSeq (tAsg (tTextJ K 4) (gName 8))
  (tSeq (tAsg (tLst (tCons (tTextL K A T (tVar 16)) (tCons (tReadL K A T (tNone K)) tNil))) (gName 9))
  (tSeq (tAsg (tOp rCat (tVar 9) (tLst (tCons (tReadL K A T (tOp rAddS (tVar 8) (tC (.str "\n")))) (tCons (tReadL K A T (tC (.str ""))) tNil)))) (gName 9))
  (tIfS (tTest (tOp (rNeD K) (tVar 9) (tLst (tCons (tTup (tCons (tC (.str "program")) (tCons (tUn rNeg (tC (.int 1))) tNil))) (tCons (tTup (tCons (tC (.str "text")) (tCons (tC (.int 0)) (tCons (tC (.int 0)) tNil)))) (tCons (tTup (tCons (tC (.str "text")) (tCons (tCB (rLenV K) (tCons (tVar 4) tNil)) (tCons (tC (.int 0)) tNil)))) (tCons (tTup (tCons (tC (.str "text")) (tCons (tC (.int 0)) (tCons (tC (.int 0)) tNil)))) tNil))))))) (tRet (tC (.bl false))) tNext)))))
def tMidA (K : PySem.W.Frag) (A : Ads) (T : List (Addr × Str)) : TS := (tSeq (tPar 10 11 (tCons (tCall (spDraw K) [] E0 (tCons (tVar 1) (tCons (tCB (rLenV K) (tCons (tVar 3) tNil)) tNil))) (tCons (tCall (spAny K) [] E0 (tCons (tVar 1) tNil)) tNil)))
  (tSeq (tAsg (tOdd K) (gName 12))
  (tSeq (tAsg (tCall (spPick K) [] E0 (tCons (tVar 1) (tCons (tMore K) tNil))) (gName 13))
  (tSeq (tAsg (tSome K) (gName 14))
  (tSeq (tAsg (tDue K) (gName 15))
  (tSeq (tIfS (tTest (tOp (rNeD K) (tTextL K A T (tVar 14)) (tIf (tTest (tOp (rNeD K) (tVar 15) (tLst tNil))) (tTup (tCons (tC (.str "program")) (tCons (tOp (rIx K) (tVar 15) (tC (.int 0))) tNil))) (tLst (tCons (tCall (spProgText K A) [] E0 (tCons (tVar 14) tNil)) tNil))))) (tRet (tC (.bl false))) tNext)
  (tMidB K A T)))))))
theorem t3_ev {a b : Int} (m : Mem S H) : EvD K S (tTup (tCons (tC (.str "text")) (tCons (tC (.int a)) (tCons (tC (.int b)) tNil)))) σ H (.tup [.str "text", .int a, .int b]) := ev_tup m (ea_cons m ev_str (ea_cons m ev_int (ev_a1 ev_int))) (by show 3 ≤ _; decide)
/-- the last part of a turn -/
theorem mid_b {vp vl : V} {dss : List (List D)} {D0 : Ends} (L : LS K T p n H) (G : Sg σ p vp vl) (hn : n ≤ 900000) (rl : Rp K (SP p) H vl (linesD (dss.map wordsOf))) (h0 : dss ≠ []) (hl : dss.length ≤ 5) (hs : ∀ ds ∈ dss, stepL ds = true)
    (q : ∀ σ' H', Sg σ' p vp vl → LS K T p (n + 1) H' → Up K (SP p) H (SP p) H' → D0.nx σ' H') : tMidB K A T D0 σ H := by
  have O := steps_lines h0 hl hs
  obtain ⟨s0, s1, s2, s3, s4, s5, s6, s7, s8, s9, s10, s11, s12, s13, s14, s15, s16, s17, s18, s19, s20, rfl⟩ := len21 G.len
  unfold tMidB
  refine lt_set (ls_pick (i := 1) (ds := nonesD) L G.pen (by omega) (ev_lst L.mem (ea_cons L.mem ev_non (ea_cons L.mem ev_int (ea_cons L.mem ev_str (ea_cons L.mem (ev_dnew L.mem) (ev_a1 ev_bl))))) (by show 5 ≤ _; decide)) (by show 1 ≤ 5; decide) (by show 5 ≤ 1000; decide) fun d hd v16 H1 L1 u1 r16 => ?_)
  obtain ⟨n1, n2, n3, n4⟩ := none_facts hd
  refine lt_setP L1 (ev_textj (i := 4) L1.mem G.lines (fun _ => rfl) (fun _ => rfl) (u1 _ _ rl) O (by decide) (by decide)) fun v8 H2 L2 u2 r8 => ?_
  refine lt_set (ls_lst2 (d1 := (resText d).d) (d2 := (resRead (noneD d)).d) (fun Q k => ls_text L2 (fun H3 L3 u3 => ev_var (i := 16) L3.mem rfl (u3 _ _ (u2 _ _ r16))) n1 k)
    (fun H3 L3 u3 Q k => ls_read L3 (fun H4 L4 u4 => ev_none L4.mem rfl hd (u4 _ _ (u3 _ _ (u2 _ _ r16)))) n3 k) fun v9 H3 L3 u3 r9 => ?_)
  obtain ⟨q1, q2⟩ := res_nl h0 hl hs
  have r83 := u3 _ _ r8
  refine lt_set ⟨v9, rfl, ls_lst2 (d1 := (resRead (.str (textL (dss.map wordsOf) ++ "\n"))).d) (d2 := (resRead (.str "")).d)
    (fun Q k => ls_read L3 (fun H4 L4 u4 => ev_op L4.mem (ev_var (i := 8) L4.mem rfl (u4 _ _ r83)) ev_str (r_addS (by
      have h1 := (txt_ok O (by decide) (by decide)).len
      have e1 : ("\n" : Str).length = 1 := by decide +kernel
      rw [e1]; omega))) q2 k)
    (fun H4 L4 u4 Q k => ls_read L4 (fun H5 L5 u5 => ev_str) tx_empty k) fun w H4 L4 u4 rw4 => ?_⟩
  refine r_cat L4.mem (by show 2 + 2 ≤ _; decide) H4 (Evl.Ex.refl _) _ _ (u4 _ _ r9) rw4 _ fun v9' H5 e5 r9' => ?_
  rw [n2, n4, q1, res_empty] at r9'
  have L5 := L4.ex e5
  have u05 := (((u1.trans u2).trans u3).trans u4).trans (L4.up e5)
  have okt : PyData.strOk "text" = true := by decide +kernel
  have okp : PyData.strOk "program" = true := by decide +kernel
  refine no_ne (d := .lst [.tup [.str "program", .int (-1)], .tup [.str "text", .int 0, .int 0], .tup [.str "text", .int ((dss.map wordsOf).length : Nat), .int 0], .tup [.str "text", .int 0, .int 0]])
    (by show ((PyData.strOk "program" && true) && ((PyData.strOk "text" && true) && ((PyData.strOk "text" && true) && ((PyData.strOk "text" && true) && true)))) = true; rw [okt, okp]; rfl) (by show max (max 0 (max 0 0) + 1) (max (max 0 (max 0 (max 0 0)) + 1) (max (max 0 (max 0 (max 0 0)) + 1) (max (max 0 (max 0 (max 0 0)) + 1) 0))) + 1 ≤ 64; decide)
    (fun Q k => ls_pure L5 (ev_var (i := 9) L5.mem rfl r9') k) (fun H6 L6 u6 => ?_) fun H6 L6 u6 => ?_
  · have e4 : EvD K (SP p) (tCB (rLenV K) (tCons (tVar 4) tNil)) _ H6 (.int ((dss.map wordsOf).length : Nat)) := (ev_cb (ev_a1 (ev_var (i := 4) L6.mem G.lines (u6 _ _ (u05 _ _ rl)))) (ra_len rfl)).is (by
      show D.int (((((dss.map wordsOf).map lineD).length : Nat)) : Int) = _
      rw [List.length_map])
    exact ev_lst L6.mem (ea_cons L6.mem (ev_tup L6.mem (ea_cons L6.mem ev_str (ev_a1 (ev_neg ev_int))) (by show 2 ≤ _; decide)) (ea_cons L6.mem (t3_ev L6.mem) (ea_cons L6.mem (ev_tup L6.mem (ea_cons L6.mem ev_str (ea_cons L6.mem e4 (ev_a1 ev_int))) (by show 3 ≤ _; decide)) (ev_a1 (t3_ev L6.mem))))) (by show 4 ≤ _; decide)
  · exact q _ H6 (((((G.set (by decide) (by decide) (by decide)).set (by decide) (by decide) (by decide)).set (by decide) (by decide) (by decide)).set (by decide) (by decide) (by decide))) L6 (u05.trans u6)
end
end Nv
set_option Elab.async false
set_option linter.all false
set_option maxRecDepth 100000
set_option maxHeartbeats 1000000
/-! The law's promise. -/
namespace Nv
open PySem PySem.Spec PyProof.Rows L2 StX NvZ LamX
section
variable {K : PySem.W.Frag} {A : Ads} {T : List (Addr × Str)} {S : Addr → Prop} {σ : L2.St} {H H' : Hp} {p : Addr} {n : Nat}
theorem lt_par {i j : Nat} {ta : TA} {r : TS} {D0 : Ends} (h : ta σ H fun vs H1 => ∃ v w, vs = [v, w] ∧ r D0 ((σ.set i (some v)).set j (some w)) H1) : tSeq (tPar i j ta) r D0 σ H := h
abbrev tRight (K : PySem.W.Frag) (A : Ads) : TE := tIf (tTest (tOp (rNeD K) (tVar 15) (tLst tNil))) (tTup (tCons (tC (.str "program")) (tCons (tOp (rIx K) (tVar 15) (tC (.int 0))) tNil))) (tLst (tCons (tCall (spProgText K A) [] E0 (tCons (tVar 14) tNil)) tNil))
theorem res_some {l : List D} : resText (.lst l) = (match badAt l with
    | some i => .prog i
    | none => .val (.str (progText (l.map fixD)))) := by
  unfold resText
  rw [if_pos (show (D.lst l).isLT = true from rfl), ← fixA_map]
  rfl
/-- both sides of the question about what is no step -/
theorem right_eq {v14 v15 : V} {l : List D} {is : List Int} (m : Mem S H) (h14 : σ[14]? = some (some v14)) (h15 : σ[15]? = some (some v15)) (r14 : Rp K S H v14 (.lst l)) (r15 : Rp K S H v15 (.lst (is.map D.int))) (h0 : l ≠ []) (hl : l.length ≤ 20) (ok : ∀ d ∈ l, SomeOk d)
    (hi : match badAt l with
      | some i => ∃ t, is = (i : Int) :: t
      | none => is = []) : EvD K S (tRight K A) σ H (resText (.lst l)).d ∧ plainD (resText (.lst l)).d = true ∧ dep (resText (.lst l)).d ≤ 64 := by
  have test : EvB (tTest (tOp (rNeD K) (tVar 15) (tLst tNil))) σ H (!decide (is = [])) := by
    have := eb_T (ev_op m (ev_var (i := 15) m h15 r15) (ev_lst m ea_nil (by show 0 ≤ _; decide)) (r_neD (d1 := .lst (is.map D.int)) (d2 := .lst []) (plain_ints _) rfl (by show depA _ + 1 ≤ 64; rw [dep_ints]; decide) (by decide)))
    rwa [ne_nil_ints] at this
  rw [res_some]
  cases hb : badAt l with
  | some i =>
    rw [hb] at hi
    obtain ⟨t, rfl⟩ := hi
    refine ⟨ev_if test (fun _ => ?_) (fun z => by simp at z), by show (PyData.strOk "program" && true) = true; rw [Bool.and_true]; decide +kernel, by show max 0 (max 0 0) + 1 ≤ 64; decide⟩
    exact ev_tup m (ea_cons m ev_str (ev_a1 (ev_op m (ev_var (i := 15) m h15 r15) ev_int (r_ixL (j := 0) rfl)))) (by show 2 ≤ _; decide)
  | none =>
    rw [hb] at hi
    replace hi : is = [] := hi
    subst hi
    have hall := badAt_none.mp hb
    have e := prog_text_ok h0 hl hall
    refine ⟨ev_if test (fun z => by simp at z) fun _ => ?_, by show (PyData.strOk _ && true) = true; rw [e]; rfl, by show max 0 0 + 1 ≤ 64; decide⟩
    have ht : textD A (.lst l) = .inr (.str (progText (l.map fixD))) := by rw [textD_some (.inl rfl) hall, prog_fix hall]
    exact ev_lst m (ev_a1 (ev_ptext m (ev_var (i := 14) m h14 r14) (prog_in ok (by omega)).1 ht)) (by show 1 ≤ _; decide)
theorem mid_a {vp vl : V} {dss : List (List D)} {D0 : Ends} (L : LS K T p n H) (G : Sg σ p vp vl) (hn : n ≤ 890000) (rp : Rp K (SP p) H vp (.lst (dss.map D.tup))) (rl : Rp K (SP p) H vl (linesD (dss.map wordsOf))) (h0 : dss ≠ []) (hl : dss.length ≤ 5) (hs : ∀ ds ∈ dss, stepL ds = true)
    (q : ∀ σ' H', Sg σ' p vp vl → LS K T p (n + 8) H' → Up K (SP p) H (SP p) H' → D0.nx σ' H') : tMidA K A T D0 σ H := by
  obtain ⟨s0, s1, s2, s3, s4, s5, s6, s7, s8, s9, s10, s11, s12, s13, s14, s15, s16, s17, s18, s19, s20, rfl⟩ := len21 G.len
  have hlen : dss.length ≠ 0 := fun z => h0 (List.length_eq_zero_iff.mp z)
  unfold tMidA
  refine lt_par (ls_draw (i := 1) (most := ((dss.length : Nat) : Int)) L G.pen (by omega) ((ev_cb (ev_a1 (ev_var (i := 3) L.mem G.prog rp)) (ra_len rfl)).is (by
    show D.int (((dss.map D.tup).length : Nat) : Int) = _
    rw [List.length_map])) (by omega) (by omega) fun k k0 k1 v10 H1 L1 u1 r10 => ?_)
  obtain ⟨a, rfl⟩ : ∃ a : Nat, k = a := ⟨k.toNat, by omega⟩
  cases r10
  refine ls_any (i := 1) L1 G.pen (by omega) fun ds hds v11 H2 L2 u2 r11 => ⟨_, v11, rfl, ?_⟩
  obtain ⟨_, _, d1, d4⟩ := step_some hds
  refine lt_setP L2 (ev_odd L2.mem rfl r11 d1 d4) fun v12 H3 L3 u3 r12 => ?_
  refine lt_set (ls_pick (i := 1) L3 G.pen (by omega) (ev_more L3.mem rfl rfl (u3 _ _ r11) r12 d4) (by show 1 ≤ 14; decide) (by show 14 ≤ 1000; decide) fun bad hbad v13 H4 L4 u4 r13 => ?_)
  have u04 := ((u1.trans u2).trans u3).trans u4
  refine lt_setP L4 (ev_some (at_ := a) L4.mem G.prog rfl rfl (u04 _ _ rp) r13 (by rw [List.length_map]; omega) (by rw [List.length_map]; omega)) fun v14 H5 L5 u5 r14 => ?_
  generalize hL : (dss.map D.tup).take a ++ [bad] ++ (dss.map D.tup).drop a = l at r14
  have l0 : l ≠ [] := by rw [← hL]; simp
  have ll : l.length ≤ 20 := by
    rw [← hL, List.length_append, List.length_append, List.length_take, List.length_drop, List.length_map]
    show _ + 1 + _ ≤ 20
    omega
  have ok : ∀ d ∈ l, SomeOk d := fun d hd => by
    rw [← hL] at hd
    rcases List.mem_append.mp hd with hd | hd
    · rcases List.mem_append.mp hd with hd | hd
      · obtain ⟨x, hx, rfl⟩ := List.mem_map.mp (List.mem_of_mem_take hd)
        exact step_ok (hs x hx)
      · have : d = bad := by simpa using hd
        rw [this]; exact bad_some hds hbad
    · obtain ⟨x, hx, rfl⟩ := List.mem_map.mp (List.mem_of_mem_drop hd)
      exact step_ok (hs x hx)
  obtain ⟨is, edue, his⟩ := ev_due (K := K) (S := SP p) (σ := (((([s0, s1, s2, s3, s4, s5, s6, s7, s8, s9, s10, s11, s12, s13, s14, s15, s16, s17, s18, s19, s20].set 10 (some (V.int a))).set 11 (some v11)).set 12 (some v12)).set 13 (some v13)).set 14 (some v14)) L5.mem rfl (fun _ _ => rfl) (fun _ _ => rfl) (fun _ _ => rfl) r14 (by omega) ok
  refine lt_setP L5 edue fun v15 H6 L6 u6 r15 => ?_
  have rr := fun {H7 : Hp} (L7 : LS K T p (n + 1 + 5 + 1) H7) (u7 : Up K (SP p) H6 (SP p) H7) => right_eq (A := A) (σ := ((((([s0, s1, s2, s3, s4, s5, s6, s7, s8, s9, s10, s11, s12, s13, s14, s15, s16, s17, s18, s19, s20].set 10 (some (V.int a))).set 11 (some v11)).set 12 (some v12)).set 13 (some v13)).set 14 (some v14)).set 15 (some v15)) L7.mem rfl rfl (u7 _ _ (u6 _ _ r14)) (u7 _ _ r15) l0 ll ok his
  refine lt_seq (no_ne (rr L6 Up.refl).2.1 (rr L6 Up.refl).2.2 (fun Q k => ls_text L6 (fun H7 L7 u7 => ev_var (i := 14) L7.mem rfl (u7 _ _ (u6 _ _ r14))) (prog_in ok (by omega)).1 k) (fun H7 L7 u7 => (rr L7 u7).1) fun H7 L7 u7 => ?_)
  have u07 := ((u04.trans u5).trans u6).trans u7
  have G7 : Sg (((((([s0, s1, s2, s3, s4, s5, s6, s7, s8, s9, s10, s11, s12, s13, s14, s15, s16, s17, s18, s19, s20].set 10 (some (V.int a))).set 11 (some v11)).set 12 (some v12)).set 13 (some v13)).set 14 (some v14)).set 15 (some v15)) p vp vl :=
    (((((G.set (by decide) (by decide) (by decide)).set (by decide) (by decide) (by decide)).set (by decide) (by decide) (by decide)).set (by decide) (by decide) (by decide)).set (by decide) (by decide) (by decide)).set (by decide) (by decide) (by decide)
  exact mid_b L7 G7 (by omega) (u07 _ _ rl) h0 hl hs fun σ' H8 G8 L8 u8 => q σ' H8 G8 (L8.le (by omega)) (u07.trans u8)
def tOut (K : PySem.W.Frag) (A : Ads) (T : List (Addr × Str)) : TS := tSeq (tAsg (tProg K) (gName 3)) (tSeq (tAsg (tLines K) (gName 4)) (tSeq (tFor (iRng1 (tCons (tC (.int 5)) tNil)) (gName 5) (tIn K A T)) (tMidA K A T)))
theorem out_turn {D0 : Ends} (L : LS K T p n H) (g0 : σ.length = 21) (g1 : σ[1]? = some (some (.ref p))) (hn : n ≤ 800000)
    (q : ∀ σ' H', σ'.length = 21 → σ'[1]? = some (some (.ref p)) → LS K T p (n + 100) H' → D0.nx σ' H') : tOut K A T D0 σ H := by
  obtain ⟨s0, s1, s2, s3, s4, s5, s6, s7, s8, s9, s10, s11, s12, s13, s14, s15, s16, s17, s18, s19, s20, rfl⟩ := len21 g0
  unfold tOut
  refine lt_set (ls_prog L g1 (fun _ => rfl) (fun _ => g1) (by omega) fun dss h0 hl hs v3 H1 L1 u1 r3 => ?_)
  refine lt_setP L1 (ev_lines' L1.mem rfl (fun _ => rfl) (fun _ => rfl) r3 (by omega) hs) fun v4 H2 L2 u2 r4 => ?_
  refine ts_loop (cnt := 5) rfl (by decide) (by decide) (fun j σ' H' => Sg σ' p v3 v4 ∧ LS K T p (n + 30 + 10 * j) H' ∧ Up K (SP p) H2 (SP p) H') ⟨⟨rfl, g1, rfl, rfl⟩, L2, Up.refl⟩ ?_ ?_
  · rintro j σ' H' hj ⟨G, L3, u3⟩ E x hE
    refine in_turn (L3) (G.set (by decide) (by decide) (by decide)) (by omega) (u3 _ _ r4) (steps_lines h0 hl hs) fun σ2 H4 G4 L4 u4 => ?_
    rw [hE]
    exact ⟨G4, L4.le (by omega), u3.trans u4⟩
  · rintro σ' H' ⟨G, L3, u3⟩
    exact mid_a L3 G (by omega) (u3 _ _ (u2 _ _ r3)) (u3 _ _ r4) h0 hl hs fun σ2 H4 G4 L4 u4 => q σ2 H4 G4.len G4.pen (L4.le (by omega))
abbrev tEnd (K : PySem.W.Frag) (A : Ads) (T : List (Addr × Str)) : TE := tOp (rEqD K) (tLst (tCons (tReadL K A T (tC (.str "-\n-"))) (tCons (tReadL K A T (tC (.str "tick\n-"))) tNil))) (tLst (tCons (tTup (tCons (tC (.str "text")) (tCons (tC (.int 0)) (tCons (tC (.int 0)) tNil)))) (tCons (tTup (tCons (tC (.str "text")) (tCons (tC (.int 1)) (tCons (tC (.int 0)) tNil)))) tNil)))
theorem ev_end {Q : VK} (L : LS K T p n H) (q : ∀ H', Q (.bl true) H') : tEnd K A T σ H Q := by
  refine ls_lst2 (d1 := (resRead (.str "-\n-")).d) (d2 := (resRead (.str "tick\n-")).d) (fun Q k => ls_read L (fun H5 L5 u5 => ev_str) tx_d1 k) (fun H4 L4 u4 Q k => ls_read L4 (fun H5 L5 u5 => ev_str) tx_d2 k) fun x H1 L1 u1 rx => ?_
  rw [res_d1, res_d2] at rx
  refine ev_lst L1.mem (ea_cons L1.mem (t3_ev (S := SP p) (K := K) (a := 0) (b := 0) L1.mem) (ev_a1 (t3_ev (a := 1) (b := 0) L1.mem))) (by show 2 ≤ _; decide) H1 (Evl.Ex.refl _) _ fun y H2 e2 ry => ?_
  have okt : PyData.strOk "text" = true := by decide +kernel
  have hp : plainD (.lst [.tup [.str "text", .int 0, .int 0], .tup [.str "text", .int 1, .int 0]]) = true := by
    show ((PyData.strOk "text" && true) && ((PyData.strOk "text" && true) && true)) = true
    rw [okt]; rfl
  have hd : dep (.lst [.tup [.str "text", .int 0, .int 0], .tup [.str "text", .int 1, .int 0]]) ≤ 64 := by decide
  refine r_eqD (S := SP p) hp hp hd hd H2 (Evl.Ex.refl _) x y (L1.up e2 _ _ rx) ry _ fun b H3 e3 rb => ?_
  rw [eqD_refl hp] at rb
  cases rb
  exact q H3
/-- the law, in parts -/
theorem t_law_eq : t_law K A T (TTh K A) (spPen K) (spDraw K) (spAny K) (spLine K) (spBent K) (spWrong K) (spRead K A) (spProgText K A) (spForm K) (spPick K) = tSeq (tAsg (tCall (spPen K) [] E0 (tCons (tVar 0) tNil)) (gName 1)) (tSeq (tFor (iRng1 (tCons (tC (.int 8)) tNil)) (gName 2) (tOut K A T)) (tRet (tEnd K A T))) := rfl
abbrev nLaw : List Str := ["script", "pen", "turn", "program", "lines", "lap", "bent", "wrong", "text", "heard", "at", "step", "odd", "bad", "some", "due", "none", "line", "words", "spot", "one"]
def spLaw (K : PySem.W.Frag) (T : List (Addr × Str)) : Sp := fun vs H Q _ => ∃ (a : Addr) (ns : List Int), vs = [.ref a] ∧ SqL K H a (ns.map V.int) ∧ ns.length ≤ 1000 ∧ Tabs T H ∧ ∀ H', Q (.bl true) H'
theorem pr_law (vs : List V) (H : Hp) (Q : VK) (E : XK) (h : spLaw K T vs H Q E) : t_law K A T (TTh K A) (spPen K) (spDraw K) (spAny K) (spLine K) (spBent K) (spWrong K) (spRead K A) (spProgText K A) (spForm K) (spPick K) { nx := fun _ H' => Q .non H', rt := Q } (start nLaw vs) H := by
  obtain ⟨a, ns, rfl, hs, hl, ht, q⟩ := h
  rw [t_law_eq]
  refine lt_set ⟨.ref a, rfl, a, ns, rfl, hs, hl, fun p H1 e1 hp m1 p1 => ?_⟩
  have L1 : LS K T p 0 H1 := ⟨p1, ht.ext e1⟩
  refine ts_loop (cnt := 8) rfl (by decide) (by decide) (fun j σ' H' => σ'.length = 21 ∧ σ'[1]? = some (some (.ref p)) ∧ LS K T p (100 * j) H') ⟨rfl, rfl, L1⟩ ?_ ?_
  · rintro j σ' H' hj ⟨g0, g1, L2⟩ E' x hE
    refine out_turn L2 (by rw [List.length_set]; exact g0) (by rw [List.getElem?_set_ne (by decide)]; exact g1) (by omega) fun σ2 H3 h0 h1 L3 => ?_
    rw [hE]
    exact ⟨h0, h1, L3.le (by omega)⟩
  · rintro σ' H' ⟨g0, g1, L2⟩
    exact lt_ret (ev_end L2 q)
end
end Nv
set_option Elab.async false
set_option linter.all false
set_option maxRecDepth 100000
set_option maxHeartbeats 1000000
/-! An exception class of the package as the head leaves it: what is looked at, what follows. -/
namespace NvK
open PySem PySem.W PySem.Spec PyProof.Rows PySem.HandSPX
/-! ### the written parts of an __init__ -/
structure Ix where
  p0 : Pos
  p1 : Pos
  p2 : Pos
  p3 : Pos
  p4 : Pos
  pj : Pos
  v1 : Expr
  v2 : Expr
  vr : List Expr
  ps : List (Str × Pos × Pos × Pos × Pos)
def psOf : List Stmt → List (Str × Pos × Pos × Pos × Pos)
  | .Assign [.Attribute (.Name _ a) f b] (.Name _ c) d :: r => (f, a, b, c, d) :: psOf r
  | _ => []
def pz : Pos := ⟨0, 0, 0, 0⟩
def ix : List Stmt → Ix
  | .Expr (.Call (.Attribute (.Call (.Name _ p0) [] [] p1) _ p2) [.JoinedStr (v1 :: v2 :: vr) pj] [] p3) p4 :: r => ⟨p0, p1, p2, p3, p4, pj, v1, v2, vr, psOf r⟩
  | _ => ⟨pz, pz, pz, pz, pz, pz, .Name "x" pz, .Name "x" pz, [], []⟩
def Ix.body (i : Ix) : List Stmt := NvX.initBody i.p0 i.p1 i.p2 i.p3 i.p4 i.pj i.v1 i.v2 i.vr i.ps
def Ix.parts (i : Ix) : List Expr := i.v1 :: i.v2 :: i.vr
def partB : Expr → Bool
  | .Constant (.str x) _ _ => decide (x.length ≤ 1000)
  | .FormattedValue (.Name _ _) c none _ => decide (c = -1)
  | _ => false
theorem partB_ok {e : Expr} (h : partB e = true) : NvX.Part e := by
  unfold partB at h
  split at h
  · exact .con _ _ _ (of_decide_eq_true h)
  · rw [of_decide_eq_true h]
    exact .fmt _ _ _
  · cases h
def inB (fs : List Str) : Expr → Bool
  | .FormattedValue (.Name f _) _ _ _ => fs.contains f
  | _ => true
/-! ### the class -/
theorem clsB_ok {K : Frag} {C : Addr} (h : clsB K C = true) : ∃ nm q N bs bm sn sub ab col dd k0 k1 k2 k3 k5, K.lookup C = some (excClassObj nm q C N bs bm true sn sub ab col dd k0 k1 k2 k3 k5 "ValueError.__new__") ∧ refsVE bm = true := by
  unfold clsB at h
  split at h
  · rename_i t dd cd sl lk
    split at h
    · rename_i D bm k0 k1 k2 k3 n k5 em es
      obtain ⟨h1, h⟩ := Bool.and_eq_true_iff.mp h
      obtain ⟨h2, h⟩ := Bool.and_eq_true_iff.mp h
      obtain ⟨h3, h⟩ := Bool.and_eq_true_iff.mp h
      obtain ⟨h4, h⟩ := Bool.and_eq_true_iff.mp h
      obtain ⟨h5, h6⟩ := Bool.and_eq_true_iff.mp h
      have t1 := of_decide_eq_true h1
      have t2 := of_decide_eq_true h2
      have t3 := of_decide_eq_true h3
      subst t1 t2 t3
      obtain ⟨nm, bs, mro, ns, qn, hd, sn, sub, ab, col, del⟩ := cd
      replace em : mro = .ref D :: bm := em
      replace h4 : (!del) = true := h4
      replace h5 : hd = true := h5
      have h4' : del = false := by simpa using h4
      subst em h4' h5
      have hs : sl = #[k0, k1, k2, k3, some (.builtin "ValueError.__new__"), k5] := by
        cases sl with
        | mk l => exact congrArg Array.mk es
      subst hs
      exact ⟨nm, qn, ns, bs, bm, sn, sub, ab, col, dd, k0, k1, k2, k3, k5, lk, h6⟩
    · cases h
  · cases h
/-! ### its __init__ -/
theorem init_ok {K : Frag} {F : Str} {d : InD} (e : fnZ K (d.f K) = d.val) (h : initB K F d = true) :
    ∃ (oc : Value) (od : Option Addr) (osl : Array (Option Value)) (kV doc pm ct : Value) (an : Option Addr) (cda cc : Addr), K.lookup (d.f K) = some ⟨oc, od, .func (ksFn "__init__" (d.cls ++ ".__init__") (L2.defArgs d.st) (L2.defBody d.st) (L2.defScope d.st) .none kV doc pm an (.ref cda) ct cc), osl⟩ ∧ codeIn K (.ref cda) (d.cls ++ ".__init__") = true ∧
      (∃ (ccl : Value) (cdd : Option Addr) (vs : Array Value) (ccs : Array (Option Value)) (file : Str) (tf : Tok), K.lookup cda = some ⟨ccl, cdd, .fields vs, ccs⟩ ∧ vs[2]? = some (.str file tf) ∧ (F == file) = true) ∧
      ∃ (cl : Value) (cld : Option Addr) (csl : Array (Option Value)), K.lookup cc = some ⟨cl, cld, .cell (some (.ref (d.C K))), csl⟩ := by
  unfold fnZ at e
  unfold initB at h
  cases lk : K.lookup (d.f K) with
  | none => rw [lk] at h; cases h
  | some o =>
    obtain ⟨oc, od, dt, osl⟩ := o
    rw [lk] at h e
    cases dt with
    | func fd =>
      obtain ⟨n1, n2, n3, n4, n5, n6, n7, n8, n9, n10, n11, n12, n13, n14, n15⟩ := fd
      replace e : (some (n1, n2, n3, n4, n5, n6, n7.map (·.1), n8, n15) : FnZ) = (some ("__init__", d.cls ++ ".__init__", L2.defArgs d.st, .stmts (L2.defBody d.st), L2.defScope d.st, mainGlobals, ["__class__"], .none, builtinsNs) : FnZ) := e
      simp only [Option.some.injEq, Prod.mk.injEq] at e
      obtain ⟨a1, a2, a3, a4, a5, a6, a7, a8, a9⟩ := e
      obtain ⟨b1, b⟩ := Bool.and_eq_true_iff.mp h
      obtain ⟨b2, b3⟩ := Bool.and_eq_true_iff.mp b
      replace b1 : codeIn K n13 (d.cls ++ ".__init__") = true := b1
      replace b2 : fileB K F n13 = true := b2
      replace b3 : cellB K (d.C K) n7 = true := b3
      match n7, a7, b3 with
      | [(y, cc)], a7, b3 =>
        have ey : y = "__class__" := by simpa using a7
        subst ey a1 a2 a3 a4 a5 a6 a8 a9
        cases n13 with
        | ref cda =>
          refine ⟨oc, od, osl, n9, n10, n11, n14, n12, cda, cc, rfl, b1, ?_, ?_⟩
          · replace b2 : (match K.lookup cda with
              | some ⟨_, _, .fields vs, _⟩ => (match (vs[2]? : Option Value) with
                | some (.str x _) => F == x
                | _ => false)
              | _ => false) = true := b2
            split at b2
            · rename_i ccl cdd vs ccs lk2
              split at b2
              · rename_i x t h2
                exact ⟨ccl, cdd, vs, ccs, x, t, lk2, h2, b2⟩
              · cases b2
            · cases b2
          · replace b3 : (match K.lookup cc with
              | some ⟨_, _, .cell (some (.ref D)), _⟩ => decide (D = d.C K)
              | _ => false) = true := b3
            split at b3
            · rename_i cl cld D csl lk2
              have := of_decide_eq_true b3
              subst this
              exact ⟨cl, cld, csl, lk2⟩
            · cases b3
        | _ => cases b1
    | _ => cases h
/-! ### what is written of it -/
structure Wr (prog : Program) (d : InD) (fs : List Str) : Prop where
  body : L2.defBody d.st = (ix (L2.defBody d.st)).body
  args : ∃ pa prs, L2.defArgs d.st = { posonlyargs := [], args := { arg := "self", annotation := none, pos := pa } :: prs, vararg := none, kwonlyargs := [], kw_defaults := [], kwarg := none, defaults := [] } ∧ prs.map (·.arg) = fs
  names : (ix (L2.defBody d.st)).ps.map (·.1) = fs
  parts : (ix (L2.defBody d.st)).parts.all partB = true
  few : (ix (L2.defBody d.st)).parts.length ≤ 10
  from_ : (ix (L2.defBody d.st)).parts.all (inB fs) = true
  loc : ∀ f ∈ fs, (L2.defScope d.st).names.lookup f = some .local ∧ (f == ("__debug__" : Str)) = false ∧ f ≠ "self"
  nodup : fs.Nodup
  ne : fs ≠ []
  five : fs.length ≤ 5
  self : (L2.defScope d.st).names.lookup ("self" : Str) = some .local
  sup : (L2.defScope d.st).names.lookup ("super" : Str) = some .globalImplicit
  cell : (L2.defScope d.st).names.lookup ("__class__" : Str) = some .free
  noc : ∀ y ∈ (L2.defScope d.st).names, y.2 ≠ .cell
  kind : (L2.defScope d.st).kind = .function
  co : (L2.defScope d.st).isCoroutine = false
  gen : (L2.defScope d.st).isGenerator = false
  bind : ∀ (kV doc pm ct : Value) (an : Option Addr) (cda cc : Addr) (us : List Value), us.length = fs.length + 1 → bindArgs (ksFn "__init__" (d.cls ++ ".__init__") (L2.defArgs d.st) (L2.defBody d.st) (L2.defScope d.st) .none kV doc pm an (.ref cda) ct cc) ⟨us, []⟩ = pure (((("self" : Str) :: fs)).zip us)
  call : ∃ pl : Env → Sem Bool, ∀ env : Env, eval (.Call (.Attribute (.Call (.Name "super" (ix (L2.defBody d.st)).p0) [] [] (ix (L2.defBody d.st)).p1) "__init__" (ix (L2.defBody d.st)).p2) [.JoinedStr (ix (L2.defBody d.st)).parts (ix (L2.defBody d.st)).pj] [] (ix (L2.defBody d.st)).p3) env = (do
      let ov ← attributeBase (.Call (.Name "super" (ix (L2.defBody d.st)).p0) [] [] (ix (L2.defBody d.st)).p1) "__init__" env (eval (.Call (.Name "super" (ix (L2.defBody d.st)).p0) [] [] (ix (L2.defBody d.st)).p1) env)
      standAt (ix (L2.defBody d.st)).p2.atName
      let (f, first) ← holding [ov] (getMethod ov "__init__" (pl env))
      callWith (ix (L2.defBody d.st)).p3 f first (backTo (ix (L2.defBody d.st)).p3 (starEach [.JoinedStr (ix (L2.defBody d.st)).parts (ix (L2.defBody d.st)).pj] env)) [])
  top : (prog.main.scope.names.lookup ("super" : Str)).isSome = false
/-! ### all of it -/
theorem all_at {l : List Bool} (h : l.all id = true) (i : Nat) {b : Bool} (e : l[i]? = some b := by rfl) : b = true := List.all_eq_true.mp h b (List.mem_of_getElem? e)
theorem txt_of {prog : Program} {K : Frag} {mg : Str → Option Value} {d : InD} {fs : List Str} (W : Wr prog d fs) (h : (excL K prog.main.file d fs).all id = true) (e : fnZ K (d.f K) = d.val) (g : mg d.cls = some (.ref (d.C K))) : NvX.Txt prog K mg d.cls (d.C K) (d.f K) fs := by
  have X := L2.xfB_ok (all_at h 2)
  obtain ⟨pa, prs, w1, w2⟩ := W.args
  obtain ⟨oc, od, osl, kV, doc, pm, ct, an, cda, cc, lk, c1, c2, c3⟩ := init_ok e (all_at h 13)
  refine ⟨g, clsB_ok (all_at h 0), He.eqO_ok (all_at h 1), X.ga, X.gg, fun f hf => He.eqO_ok (List.all_eq_true.mp (all_at h 3) f hf), He.eqO_ok (all_at h 4), of_decide_eq_true (all_at h 5), all_at h 6, X.exC, of_decide_eq_true (all_at h 7), of_decide_eq_true (all_at h 8), X.hdC,
    He.eqO_ok (all_at h 9), He.eqO_ok (all_at h 10), He.eqO_ok (all_at h 11), of_decide_eq_true (all_at h 12), W.top, ?_⟩
  have wb := W.body
  have hb := W.bind kV doc pm ct an cda cc
  rw [wb] at lk hb
  exact ⟨oc, od, osl, L2.defArgs d.st, L2.defScope d.st, kV, doc, pm, ct, an, cda, cc, _, _, _, _, _, _, _, _, _, _, pa, prs, lk, c1, c2, c3, w1, w2, W.names, fun x hx => partB_ok (List.all_eq_true.mp W.parts x hx), W.few, fun f p q hm => by
    have := List.all_eq_true.mp W.from_ _ hm
    exact List.contains_iff_mem.mp this, W.loc, W.nodup, W.ne, W.five, W.self, W.sup, W.cell, W.noc, W.kind, W.co, W.gen, hb, W.call⟩
theorem excC_of {K : Frag} {F : Str} {d : InD} {fs : List Str} (h : (excL K F d fs).all id = true) : L2.ExcC K (d.C K) := by
  have X := L2.xfB_ok (all_at h 2)
  exact ⟨X.ga, X.gg, X.exC, X.hdC, He.eqO_ok (all_at h 14), He.eqO_ok (all_at h 15), of_decide_eq_true (all_at h 16), of_decide_eq_true (all_at h 17)⟩
theorem xfC_of {K : Frag} {F : Str} {d : InD} {fs : List Str} (h : (excL K F d fs).all id = true) : L2.XfC K (d.C K) := L2.xfB_ok (all_at h 2)
end NvK
set_option Elab.async false
set_option linter.all false
set_option maxRecDepth 100000
set_option maxHeartbeats 1000000
/-! The two exception classes as they are written. -/
namespace NvK
open PySem PySem.W PySem.Spec PyProof.Rows PySem.HandSPX
theorem wr_text : Wr PR inText ["line", "word"] where
  body := by kernel_rfl
  args := ⟨_, _, rfl, rfl⟩
  names := by kernel_rfl
  parts := by kernel_rfl
  few := by decide +kernel
  from_ := by kernel_rfl
  loc := by decide +kernel
  nodup := by decide +kernel
  ne := by decide
  five := by decide
  self := by kernel_rfl
  sup := by kernel_rfl
  cell := by kernel_rfl
  noc := by decide +kernel
  kind := by kernel_rfl
  co := by kernel_rfl
  gen := by kernel_rfl
  bind := fun kV doc pm ct an cda cc us hl => match us, hl with | [_, _, _], _ => rfl
  call := ⟨fun env => L2.plainOf (.Call (.Name "super" (ix (L2.defBody inText.st)).p0) [] [] (ix (L2.defBody inText.st)).p1) env, fun env => rfl⟩
  top := by kernel_rfl
theorem wr_prog : Wr PR inProg ["at"] where
  body := by kernel_rfl
  args := ⟨_, _, rfl, rfl⟩
  names := by kernel_rfl
  parts := by kernel_rfl
  few := by decide +kernel
  from_ := by kernel_rfl
  loc := by decide +kernel
  nodup := by decide +kernel
  ne := by decide
  five := by decide
  self := by kernel_rfl
  sup := by kernel_rfl
  cell := by kernel_rfl
  noc := by decide +kernel
  kind := by kernel_rfl
  co := by kernel_rfl
  gen := by kernel_rfl
  bind := fun kV doc pm ct an cda cc us hl => match us, hl with | [_, _], _ => rfl
  call := ⟨fun env => L2.plainOf (.Call (.Name "super" (ix (L2.defBody inProg.st)).p0) [] [] (ix (L2.defBody inProg.st)).p1) env, fun env => rfl⟩
  top := by kernel_rfl
end NvK
set_option Elab.async false
set_option linter.all false
set_option maxRecDepth 100000
set_option maxHeartbeats 1000000
/-! The head's hook: the facts of the package's module, one by one. -/
namespace NvK
open PySem PySem.W PySem.Spec PyProof.Rows PySem.HandSPX
/-! ### dicts of the module -/
theorem dic_all {K : Frag} {w : World} {a : Addr} {ks : List Str} (h : He.dicW K a = some (He.keysIn w.params ks)) : ∃ es n, L2.KDict K w a es n ∧ es.toList.map He.keyOf = He.keysIn w.params ks := by
  obtain ⟨es, n, D⟩ := He.dicW_ok h
  refine ⟨es, n, D, ?_⟩
  unfold He.dicW at h
  rw [D.at_] at h
  replace h : (match decide (("dict" : String) = "dict") && ((#[] : Array (Option Value)).isEmpty && !(a == sysModules)) with
    | true => some (es.toList.map He.keyOf)
    | false => none) = some (He.keysIn w.params ks) := h
  rw [D.low] at h
  exact Option.some.inj h
theorem keys_str {P : Params} : ∀ {l : List DictEntry} {ks : List Str}, l.map He.keyOf = He.keysIn P ks → l.map (fun e => Nv.keyStr e.key) = ks.map some ∧ ∀ e ∈ l, ∃ k t, e.key = .str k t ∧ k ∈ ks
  | [], [], _ => ⟨rfl, fun _ h => nomatch h⟩
  | [], _ :: _, h => by cases h
  | _ :: _, [], h => by cases h
  | e :: l, k :: ks, h => by
    have h1 : He.keyOf e :: l.map He.keyOf = some (k, PyData.keyHash P k) :: He.keysIn P ks := h
    injection h1 with h2 h3
    obtain ⟨i1, i2⟩ := keys_str h3
    have hk : ∃ t, e.key = .str k t := by
      unfold He.keyOf at h2
      split at h2
      · rename_i x t q
        have := (Prod.mk.inj (Option.some.inj h2)).1
        exact ⟨t, by rw [q, this]⟩
      · cases h2
    obtain ⟨t, ht⟩ := hk
    refine ⟨?_, fun y hy => ?_⟩
    · rw [List.map_cons, List.map_cons, i1, ht]; rfl
    · rcases List.mem_cons.mp hy with rfl | hy
      · exact ⟨k, t, ht, List.mem_cons_self⟩
      · obtain ⟨k', t', q1, q2⟩ := i2 y hy
        exact ⟨k', t', q1, List.mem_cons_of_mem _ q2⟩
theorem ns_none {K : Frag} {w : World} {a : Addr} {es : Array DictEntry} {n : Nat} {ks : List Str} (D : L2.KDict K w a es n) (h : ∀ e ∈ es.toList, ∃ k t, e.key = .str k t ∧ k ∈ ks) {x : Str} (hx : x ∉ ks) : nsIn K a x = some none := by
  unfold nsIn
  rw [D.at_]
  have e1 : es.toList.find? (·.key.isStr x) = none := by
    rw [List.find?_eq_none]
    intro e he
    obtain ⟨k, t, q1, q2⟩ := h e he
    rw [q1]
    show ¬ (k == x) = true
    intro z
    exact hx (by rw [← beq_iff_eq.mp z]; exact q2)
  have e2 : es.toList.any (·.refKey) = false := by
    rw [List.any_eq_false]
    intro e he
    obtain ⟨k, t, q1, q2⟩ := h e he
    unfold DictEntry.refKey
    rw [q1]
    exact Bool.false_ne_true
  show (match es.toList.find? (·.key.isStr x) with
      | some e => some (some e.val)
      | none => if es.toList.any (·.refKey) then none else some none) = _
  rw [e1, e2]
  rfl
end NvK
set_option Elab.async false
set_option linter.all false
set_option maxRecDepth 100000
set_option maxHeartbeats 1000000
/-! The facts as the walks and the promises want them. -/
namespace NvK
open PySem PySem.W PySem.Spec PyProof.Rows PySem.HandSPX
section
variable {w : World} {K : Frag} {mg : Str → Option Value} {h : Heap}
theorem glo_of (X : K.In h) (G : h.Ns mainGlobals mg) (S : SaysN w h K) {x : Str} (hx : x ∈ gloL := by decide +kernel) : mg x = some (.ref (He.ga K x)) := He.glo_ok X G (S.x.t.d.facts (f := .glo x) (by
  unfold faL
  exact List.mem_append_left _ (List.mem_append_left _ (List.mem_append_left _ (List.mem_map_of_mem hx)))))
theorem free_of (X : K.In h) (G : h.Ns mainGlobals mg) (S : SaysN w h K) {x : Str} (hx : x ∈ freeL := by decide +kernel) : mg x = none := He.free_ok X G (S.x.t.d.facts (f := .free x) (by
  unfold faL
  exact List.mem_append_left _ (List.mem_append_left _ (List.mem_append_right _ (List.mem_map_of_mem hx)))))
theorem meth_of (S : SaysN w h K) {m : Str} (hx : m ∈ methL := by decide +kernel) : L2.Meth K (He.ga K "Scan") m (He.ma K (He.ga K "Scan") m) := He.meth_ok (S.x.t.d.facts (f := .meth "Scan" m) (by
  unfold faL
  exact List.mem_append_left _ (List.mem_append_right _ (List.mem_map_of_mem hx))))
theorem last_of (S : SaysN w h K) {f : He.Fa} (hx : f ∈ ([.str "NONE" "-", .str "FIGURES" "0123456789", .cls "Scan", .noat "Scan" "lines", .noat "Scan" "line", .noat "Scan" "at", .mkr "Scan", .exm "BadText" "GoneError" true, .exm "BadProgram" "GoneError" true, .noat "BadText" "line", .noat "BadText" "word", .noat "BadProgram" "at"] : List He.Fa) := by simp) : f.ok K = true := S.x.t.d.facts (f := f) (by
  unfold faL
  exact List.mem_append_right _ hx)
theorem ex_of (S : SaysN w h K) : (excL K PR.main.file inText ["line", "word"]).all id = true ∧ (excL K PR.main.file inProg ["at"]).all id = true ∧ (kitL K).all id = true ∧ He.valsB K (He.ga K "FORMS") vF = true ∧ He.valsB K (He.ga K "MOST") vM = true := by
  have m := S.x.more
  unfold exN at m
  obtain ⟨m1, m⟩ := Bool.and_eq_true_iff.mp m
  obtain ⟨m2, m⟩ := Bool.and_eq_true_iff.mp m
  obtain ⟨m3, m⟩ := Bool.and_eq_true_iff.mp m
  obtain ⟨m4, m5⟩ := Bool.and_eq_true_iff.mp m
  exact ⟨m1, m2, m3, m4, m5⟩
theorem fnz_of (S : SaysN w h K) : fnZ K (inText.f K) = inText.val ∧ fnZ K (inProg.f K) = inProg.val := by
  have z := S.z
  have z' : [fnZ K (inText.f K), fnZ K (inProg.f K)] = [inText.val, inProg.val] := z
  simp only [List.cons.injEq, and_true] at z'
  exact z'
theorem blt_of (X : K.In h) (G : h.Ns mainGlobals mg) (S : SaysN w h K) : Nv.Blt mg := ⟨free_of X G S, free_of X G S, free_of X G S, free_of X G S, free_of X G S, free_of X G S, free_of X G S, free_of X G S, free_of X G S, free_of X G S, free_of X G S, free_of X G S⟩
theorem tab_of (S : SaysN w h K) (i : Nat) {t : He.Tab} (ht : tsL[i]? = some t := by rfl) : ∃ es n, L2.KDict K w (t.1 K) es n ∧ es.toList.map (fun e => Nv.keyStr e.key) = t.2.map some ∧ ∀ x, x ∉ t.2 → nsIn K (t.1 K) x = some none := by
  have e : tsL.map (fun t => He.dicW K (t.1 K)) = tsL.map fun t => some (He.keysIn w.params t.2) := congrArg (fun z : He.AlT => z.2) S.x.t
  have e2 : (tsL.map fun t => He.dicW K (t.1 K))[i]? = (tsL.map fun t => some (He.keysIn w.params t.2))[i]? := by rw [e]
  rw [List.getElem?_map, List.getElem?_map, ht] at e2
  obtain ⟨es, n, D, hk⟩ := dic_all (Option.some.inj e2)
  obtain ⟨k1, k2⟩ := keys_str hk
  exact ⟨es, n, D, k1, fun x hx => ns_none D k2 hx⟩
/-- all that the walks ask -/
structure Fx (A : Nv.Ads) (w : World) (K : Frag) (mg : Str → Option Value) : Prop where
  B : Nv.Blt mg
  T : Nv.Tx A PR w K mg
  Y : Nv.Dx A K
  S : Nv.Sx A K
  H : Nv.Hx A K mg (He.ga K "GoneError") (He.ga K "TooMany")
  scan : A.cScan = He.ga K "Scan"
theorem form_none {x : Str} (h : x ∉ Nv.ksFORMS) : Nv.formOf x = none := by
  cases e : Nv.formOf x with
  | none => rfl
  | some f =>
    rcases Nv.form_cases e with ⟨rfl, _⟩ | ⟨rfl, _⟩ | ⟨rfl, _⟩ | ⟨rfl, _⟩ | ⟨rfl, _⟩ | ⟨rfl, _⟩ <;> exact absurd (by decide +kernel) h
theorem val_str {a : Addr} {l : List (Str × He.Dv)} (hv : He.valsB K a l = true) {x z : Str} (hm : (x, He.Dv.str z) ∈ l) : ∃ t, nsIn K a x = some (some (.str z t)) := by
  obtain ⟨u, h1, h2⟩ := He.valsB_ok hv hm
  obtain ⟨t, rfl⟩ := (show L2.RelV (.str z) u from h2)
  exact ⟨t, h1⟩
theorem val_int {a : Addr} {l : List (Str × He.Dv)} (hv : He.valsB K a l = true) {x : Str} {z : Int} (hm : (x, He.Dv.int z) ∈ l) : ∃ t, nsIn K a x = some (some (.int z t)) := by
  obtain ⟨u, h1, h2⟩ := He.valsB_ok hv hm
  obtain ⟨t, rfl⟩ := (show L2.RelV (.int z) u from h2)
  exact ⟨t, h1⟩
theorem fx_of (X : K.In h) (G : h.Ns mainGlobals mg) (S : SaysN w h K) : ∃ A, Fx A w K mg := by
  obtain ⟨eF, nF, D1, k1, z1⟩ := tab_of S 0
  obtain ⟨eM, nM, D2, k2, z2⟩ := tab_of S 1
  obtain ⟨x1, x2, x3, v1, v2⟩ := ex_of S
  obtain ⟨q1, q2⟩ := fnz_of S
  refine ⟨⟨He.ga K "FORMS", eF, nF, He.ga K "MOST", eM, nM, He.ga K "Scan", He.ga K "BadText", He.ma K (He.ga K "BadText") "__init__", He.ga K "BadProgram", He.ma K (He.ga K "BadProgram") "__init__"⟩, blt_of X G S, ?_, ?_, ?_, ?_, rfl⟩
  · refine ⟨glo_of X G S, D1, k1, by decide +kernel, by decide, glo_of X G S, D2, He.str_ok X G (last_of S), He.str_ok X G (last_of S), glo_of X G S, He.cls_ok (last_of S), ?_, ?_⟩
    · exact txt_of wr_text x1 q1 (glo_of X G S)
    · exact txt_of wr_prog x2 q2 (glo_of X G S)
  · refine ⟨fun x => ?_, fun s i hs => ?_⟩
    · show ∃ r, nsIn K (He.ga K "FORMS") x = some r ∧ _
      by_cases hx : x ∈ Nv.ksFORMS
      · have hx' : x = "new" ∨ x = "read" ∨ x = "write" ∨ x = "copy" ∨ x = "drop" ∨ x = "tick" := by simpa [Nv.ksFORMS] using hx
        have key : ∀ {z : Str}, (x, He.Dv.str z) ∈ vF → Nv.formOf x = some z → ∃ r, nsIn K (He.ga K "FORMS") x = some r ∧ (∀ f, Nv.formOf x = some f → ∃ t, r = some (.str f t)) ∧ (Nv.formOf x = none → r = none) := fun {z} hm hf => by
          obtain ⟨t, ht⟩ := val_str v1 hm
          refine ⟨_, ht, fun f h => ?_, fun h => ?_⟩
          · rw [hf] at h
            cases h
            exact ⟨t, rfl⟩
          · rw [hf] at h; cases h
        rcases hx' with rfl | rfl | rfl | rfl | rfl | rfl
        · exact key (z := "rk") (by simp [vF]) (by decide +kernel)
        · exact key (z := "rrf") (by simp [vF]) (by decide +kernel)
        · exact key (z := "rfv") (by simp [vF]) (by decide +kernel)
        · exact key (z := "rr") (by simp [vF]) (by decide +kernel)
        · exact key (z := "r") (by simp [vF]) (by decide +kernel)
        · exact key (z := "") (by simp [vF]) (by decide +kernel)
      · have e := form_none hx
        exact ⟨none, z1 x hx, fun f h => (by rw [e] at h; cases h), fun _ => rfl⟩
    · show ∃ t, nsIn K (He.ga K "MOST") s = some (some (.int i t))
      have hs' : (s = "r" ∧ i = 3) ∨ (s = "k" ∧ i = 2) ∨ (s = "f" ∧ i = 1) ∨ (s = "v" ∧ i = 3) := by
        unfold Nv.mostOf at hs
        split at hs
        · cases hs; exact .inl ⟨by assumption, rfl⟩
        · split at hs
          · cases hs; exact .inr (.inl ⟨by assumption, rfl⟩)
          · split at hs
            · cases hs; exact .inr (.inr (.inl ⟨by assumption, rfl⟩))
            · split at hs
              · cases hs; exact .inr (.inr (.inr ⟨by assumption, rfl⟩))
              · cases hs
      rcases hs' with ⟨rfl, rfl⟩ | ⟨rfl, rfl⟩ | ⟨rfl, rfl⟩ | ⟨rfl, rfl⟩
      · exact val_int v2 (by simp [vM])
      · exact val_int v2 (by simp [vM])
      · exact val_int v2 (by simp [vM])
      · exact val_int v2 (by simp [vM])
  · exact ⟨He.cls_ok (last_of S), He.noat_ok (last_of S), He.noat_ok (last_of S), He.noat_ok (last_of S)⟩
  · exact ⟨glo_of X G S, glo_of X G S, glo_of X G S, glo_of X G S, He.exm_ok (last_of S), He.exm_ok (last_of S), excC_of x1, excC_of x2, xfC_of x1, xfC_of x2, He.noat_ok (last_of S), He.noat_ok (last_of S), He.noat_ok (last_of S),
      of_decide_eq_true (all_at x3 0), of_decide_eq_true (all_at x3 1), of_decide_eq_true (all_at x3 2), of_decide_eq_true (all_at x3 3), of_decide_eq_true (all_at x3 4)⟩
end
end NvK
set_option Elab.async false
set_option linter.all false
set_option maxRecDepth 100000
set_option maxHeartbeats 1000000
/-! The defs of the package and of the law, level by level. -/
namespace NvK
open PySem PySem.W PySem.Spec PyProof.Rows PySem.HandSPX
section
variable {P : Program} {w : World} {K : Frag} {mg : Str → Option Value} {base : Heap} {CX : L2.CXT} {k j : Nat} {x : Str} {ps : List Str} {sp : L2.Sp} {C : Addr}
theorem cal_up (c : Nv.Cal P w K mg base CX j x ps sp) (h : j ≤ k) : Nv.Cal P w K mg base CX k x ps sp := by
  obtain ⟨f, fd, h1, h2, h3, h4⟩ := c.ex
  exact ⟨f, fd, h1, h2, h3, h4.mono h⟩
theorem met_up (c : Nv.Met P w K mg base CX j C x ps sp) (h : j ≤ k) : Nv.Met P w K mg base CX k C x ps sp := by
  obtain ⟨f, fd, h1, h3, h4⟩ := c.ex
  exact ⟨f, fd, h1, h3, h4.mono h⟩
end
section
variable {w : World} {K : Frag} {mg : Str → Option Value} {h : Heap}
/-- a def of the module: where it stands -/
theorem def_of (S : SaysN w h K) (i : Nat) {x : Str} {st : Stmt} (hi : fnL[i]? = some (dD x st) := by rfl) : ∃ fd, Nv.FnP K x x st (He.ga K x) fd := S.x.t.d.def_ i (d := dD x st) hi
theorem mdef_of (S : SaysN w h K) (i : Nat) {x q : Str} {st : Stmt} (hi : fnL[i]? = some (dM x st) := by rfl) (hq : ("Scan" : Str) ++ "." ++ x = q := by decide +kernel) : ∃ fd, Nv.FnP K x q st (He.ma K (He.ga K "Scan") x) fd := by
  subst hq
  exact S.x.t.d.def_ i (d := dM x st) hi
theorem cal_of (X : K.In h) (G : h.Ns mainGlobals mg) (S : SaysN w h K) {P : Program} {base : Heap} {CX : L2.CXT} {k : Nat} {x : Str} {st : Stmt} {ps : List Str} {sp : L2.Sp} {fd : FuncData} (F : Nv.FnP K x x st (He.ga K x) fd) (b : L2.Binds K fd ps []) (ok : L2.FnOk P w K mg base CX k (He.ga K x) fd ps sp) (hx : x ∈ gloL := by decide +kernel) : Nv.Cal P w K mg base CX k x ps sp :=
  ⟨_, fd, glo_of X G S hx, F.kp, b, ok⟩
theorem met_of (S : SaysN w h K) {P : Program} {base : Heap} {CX : L2.CXT} {k : Nat} {x : Str} {ps : List Str} {sp : L2.Sp} {fd : FuncData} {A : Nv.Ads} (hA : A.cScan = He.ga K "Scan") (b : L2.Binds K fd ps []) (ok : L2.FnOk P w K mg base CX k (He.ma K (He.ga K "Scan") x) fd ps sp) (hx : x ∈ methL := by decide +kernel) : Nv.Met P w K mg base CX k A.cScan x ps sp := by
  rw [hA]
  exact ⟨_, fd, meth_of S hx, b, ok⟩
/-- the callees at a level -/
structure At (A : Nv.Ads) (w : World) (K : Frag) (mg : Str → Option Value) (base : Heap) (k : Nat) : Prop where
  integer : Nv.Cal PR w K mg base L2.CX0 k "is_integer" ["value"] (Nv.spInteger K)
  within : Nv.Cal PR w K mg base L2.CX0 k "is_within" ["value", "least", "most"] (Nv.spWithin K)
  listed : Nv.Cal PR w K mg base L2.CX0 k "is_listed" ["value"] (Nv.spListed K)
  plain : Nv.Cal PR w K mg base L2.CX0 k "is_plain_tuple" ["value", "many"] (Nv.spPlainTuple K)
  figure : Nv.Cal PR w K mg base L2.CX0 k "is_figure" ["word", "least", "most"] (Nv.spFigure K)
  over : Nv.Met PR w K mg base L2.CX0 k A.cScan "is_over" ["self"] (Nv.spOver K A)
  ahead : Nv.Met PR w K mg base L2.CX0 k A.cScan "ahead" ["self"] (Nv.spAhead K A)
  stop : Nv.Met PR w K mg base (L2.CX PR w) k A.cScan "stop" ["self"] (Nv.spStop K A)
  takeof : Nv.Met PR w K mg base (L2.CX PR w) k A.cScan "take_of" ["self", "words"] (Nv.spTakeOf K A)
  takenum : Nv.Met PR w K mg base (L2.CX PR w) k A.cScan "take_number" ["self", "least", "most"] (Nv.spTakeNum K A)
  endline : Nv.Met PR w K mg base (L2.CX PR w) k A.cScan "end_line" ["self"] (Nv.spEndLine K A)
  scanof : Nv.Cal PR w K mg base (L2.CX PR w) k "scan_of" ["text"] (Nv.spScanOf K A)
  step : Nv.Cal PR w K mg base L2.CX0 k "is_step" ["value"] (Nv.spStep K)
  words : Nv.Cal PR w K mg base L2.CX0 k "step_words" ["step"] (Nv.spWords K)
  text : Nv.Cal PR w K mg base L2.CX0 k "step_text" ["step"] (Nv.spText K)
  taken : Nv.Cal PR w K mg base (L2.CX PR w) k "taken_step" ["scan"] (Nv.spTaken K A)
  pen : Nv.Cal PR w K mg base L2.CX0 k "_law_pen" ["script"] (Nv.spPen K)
  draw : Nv.Cal PR w K mg base L2.CX0 k "_law_draw" ["pen", "most"] (Nv.spDraw K)
  pick : Nv.Cal PR w K mg base L2.CX0 k "_law_pick" ["pen", "some"] (Nv.spPick K)
  lfigure : Nv.Cal PR w K mg base L2.CX0 k "_law_figure" ["word", "low", "high"] (Nv.spLFigure K)
  form : Nv.Cal PR w K mg base L2.CX0 k "_law_step_form" ["value"] (Nv.spForm K)
  line : Nv.Cal PR w K mg base L2.CX0 k "_law_step_line" ["step"] (Nv.spLine K)
  wrong : Nv.Cal PR w K mg base L2.CX0 k "_law_line_wrong" ["words"] (Nv.spWrong K)
  any : Nv.Cal PR w K mg base L2.CX0 k "_law_any_step" ["pen"] (Nv.spAny K)
  bent : Nv.Cal PR w K mg base L2.CX0 k "_law_bent" ["pen", "lines"] (Nv.spBent K)
open Nv L2 in
theorem at_of {A : Ads} {base : Heap} (X : K.In h) (G : h.Ns mainGlobals mg) (S : SaysN w h K) (Z : Fx A w K mg) : At A w K mg base 6 := by
  have B := Z.B
  have T := Z.T
  have sc := Z.scan
  obtain ⟨_, F_int⟩ := def_of S 0 (x := "is_integer") (st := st_is_integer)
  have c_int : Cal PR w K mg base CX0 1 "is_integer" ["value"] (spInteger K) := cal_of X G S F_int (F_int.bindsN fun _ _ _ _ _ _ us hl => match us, hl with | [_], _ => rfl) (wk_is_integer B T F_int (fun vs H Q E z => z.len) fun vs H Q E z => pr_integer vs H Q E z)
  obtain ⟨_, F_wi⟩ := def_of S 1 (x := "is_within") (st := st_is_within)
  have c_wi : Cal PR w K mg base CX0 2 "is_within" ["value", "least", "most"] (spWithin K) := cal_of X G S F_wi (F_wi.bindsN fun _ _ _ _ _ _ us hl => match us, hl with | [_, _, _], _ => rfl) (wk_is_within B T c_int F_wi (fun vs H Q E z => z.len) fun vs H Q E z => pr_within vs H Q E z)
  obtain ⟨_, F_li⟩ := def_of S 2 (x := "is_listed") (st := st_is_listed)
  have c_li : Cal PR w K mg base CX0 1 "is_listed" ["value"] (spListed K) := cal_of X G S F_li (F_li.bindsN fun _ _ _ _ _ _ us hl => match us, hl with | [_], _ => rfl) (wk_is_listed B T F_li (fun vs H Q E z => z.len) fun vs H Q E z => pr_listed vs H Q E z)
  obtain ⟨_, F_pl⟩ := def_of S 3 (x := "is_plain_tuple") (st := st_is_plain_tuple)
  have c_pl : Cal PR w K mg base CX0 2 "is_plain_tuple" ["value", "many"] (spPlainTuple K) := cal_of X G S F_pl (F_pl.bindsN fun _ _ _ _ _ _ us hl => match us, hl with | [_, _], _ => rfl) (wk_is_plain_tuple B T c_li F_pl (fun vs H Q E z => z.len) fun vs H Q E z => pr_plain vs H Q E z)
  obtain ⟨_, F_fi⟩ := def_of S 5 (x := "is_figure") (st := st_is_figure)
  have c_fi : Cal PR w K mg base CX0 1 "is_figure" ["word", "least", "most"] (spFigure K) := cal_of X G S F_fi (F_fi.bindsN fun _ _ _ _ _ _ us hl => match us, hl with | [_, _, _], _ => rfl) (wk_is_figure B T F_fi (fun vs H Q E z => z.len) fun vs H Q E z => pr_figure vs H Q E z)
  -- the scanner
  obtain ⟨_, F_in⟩ := mdef_of S 7 (x := "__init__") (q := "Scan.__init__") (st := st_Scan___init__)
  have c_in : Ini PR w K mg base CX0 2 A.cScan ["self", "lines"] (spInit K A) := by
    rw [sc]
    exact ⟨_, _, He.mkr_ok (last_of S), F_in.bindsN fun _ _ _ _ _ _ us hl => match us, hl with | [_, _], _ => rfl, 1, rfl, wk_Scan___init__ B T F_in (fun vs H Q E z => by obtain ⟨_, _, _, _, _, rfl, _⟩ := z; rfl) fun vs H Q E z => pr_init Z.S vs H Q E z⟩
  obtain ⟨_, F_so⟩ := def_of S 6 (x := "scan_of") (st := st_scan_of)
  have c_so : Cal PR w K mg base (CX PR w) 3 "scan_of" ["text"] (spScanOf K A) := cal_of X G S F_so (F_so.bindsN fun _ _ _ _ _ _ us hl => match us, hl with | [_], _ => rfl) (wk_scan_of B T c_in F_so (fun vs H Q E z => by obtain ⟨_, _, _, rfl, _⟩ := z; rfl) fun vs H Q E z => pr_scanof Z.S vs H Q E z)
  obtain ⟨_, F_ov⟩ := mdef_of S 8 (x := "is_over") (q := "Scan.is_over") (st := st_Scan_is_over)
  have c_ov : Met PR w K mg base CX0 1 A.cScan "is_over" ["self"] (spOver K A) := met_of S sc (F_ov.bindsN fun _ _ _ _ _ _ us hl => match us, hl with | [_], _ => rfl) (wk_Scan_is_over B T F_ov (fun vs H Q E z => by obtain ⟨_, _, _, _, _, rfl, _⟩ := z; rfl) fun vs H Q E z => pr_over Z.S vs H Q E z)
  obtain ⟨_, F_ah⟩ := mdef_of S 9 (x := "ahead") (q := "Scan.ahead") (st := st_Scan_ahead)
  have c_ah : Met PR w K mg base CX0 2 A.cScan "ahead" ["self"] (spAhead K A) := met_of S sc (F_ah.bindsN fun _ _ _ _ _ _ us hl => match us, hl with | [_], _ => rfl) (wk_Scan_ahead B T c_ov F_ah (fun vs H Q E z => by obtain ⟨_, _, _, _, _, rfl, _⟩ := z; rfl) fun vs H Q E z => pr_ahead Z.S vs H Q E z)
  obtain ⟨_, F_st⟩ := mdef_of S 10 (x := "stop") (q := "Scan.stop") (st := st_Scan_stop)
  have c_st : Met PR w K mg base (CX PR w) 1 A.cScan "stop" ["self"] (spStop K A) := met_of S sc (F_st.bindsN fun _ _ _ _ _ _ us hl => match us, hl with | [_], _ => rfl) (wk_Scan_stop B T F_st (fun vs H Q E z => by obtain ⟨_, _, _, _, _, rfl, _⟩ := z; rfl) fun vs H Q E z => pr_stop Z.S vs H Q E z)
  obtain ⟨_, F_to⟩ := mdef_of S 11 (x := "take_of") (q := "Scan.take_of") (st := st_Scan_take_of)
  have c_to : Met PR w K mg base (CX PR w) 3 A.cScan "take_of" ["self", "words"] (spTakeOf K A) := met_of S sc (F_to.bindsN fun _ _ _ _ _ _ us hl => match us, hl with | [_, _], _ => rfl) (wk_Scan_take_of B T c_ah (met_up c_st (by decide)) F_to (fun vs H Q E z => by obtain ⟨_, _, _, _, _, _, _, rfl, _⟩ := z; rfl) fun vs H Q E z => pr_takeof Z.S vs H Q E z)
  obtain ⟨_, F_tn⟩ := mdef_of S 12 (x := "take_number") (q := "Scan.take_number") (st := st_Scan_take_number)
  have c_tn : Met PR w K mg base (CX PR w) 3 A.cScan "take_number" ["self", "least", "most"] (spTakeNum K A) := met_of S sc (F_tn.bindsN fun _ _ _ _ _ _ us hl => match us, hl with | [_, _, _], _ => rfl) (wk_Scan_take_number B T c_ah (cal_up c_fi (by decide)) (met_up c_st (by decide)) F_tn (fun vs H Q E z => by obtain ⟨_, _, _, _, _, _, _, rfl, _⟩ := z; rfl) fun vs H Q E z => pr_takenum Z.S vs H Q E z)
  obtain ⟨_, F_el⟩ := mdef_of S 13 (x := "end_line") (q := "Scan.end_line") (st := st_Scan_end_line)
  have c_el : Met PR w K mg base (CX PR w) 3 A.cScan "end_line" ["self"] (spEndLine K A) := met_of S sc (F_el.bindsN fun _ _ _ _ _ _ us hl => match us, hl with | [_], _ => rfl) (wk_Scan_end_line B T c_ah (met_up c_ov (by decide)) (met_up c_st (by decide)) F_el (fun vs H Q E z => by obtain ⟨_, _, _, _, _, rfl, _⟩ := z; rfl) fun vs H Q E z => pr_endline Z.S vs H Q E z)
  -- steps
  obtain ⟨_, F_is⟩ := def_of S 14 (x := "is_step") (st := st_is_step)
  have c_is : Cal PR w K mg base CX0 3 "is_step" ["value"] (spStep K) := cal_of X G S F_is (F_is.bindsN fun _ _ _ _ _ _ us hl => match us, hl with | [_], _ => rfl) (wk_is_step B T (cal_up c_li (by decide)) c_pl c_wi F_is (fun vs H Q E z => z.len) fun vs H Q E z => pr_step Z.Y vs H Q E z)
  obtain ⟨_, F_sw⟩ := def_of S 16 (x := "step_words") (st := st_step_words)
  have c_sw : Cal PR w K mg base CX0 1 "step_words" ["step"] (spWords K) := cal_of X G S F_sw (F_sw.bindsN fun _ _ _ _ _ _ us hl => match us, hl with | [_], _ => rfl) (wk_step_words B T F_sw (fun vs H Q E z => z.len) fun vs H Q E z => pr_words vs H Q E z)
  obtain ⟨_, F_tx⟩ := def_of S 17 (x := "step_text") (st := st_step_text)
  have c_tx : Cal PR w K mg base CX0 2 "step_text" ["step"] (spText K) := cal_of X G S F_tx (F_tx.bindsN fun _ _ _ _ _ _ us hl => match us, hl with | [_], _ => rfl) (wk_step_text B T c_sw F_tx (fun vs H Q E z => z.len) fun vs H Q E z => pr_text vs H Q E z)
  obtain ⟨_, F_tk⟩ := def_of S 19 (x := "taken_step") (st := st_taken_step)
  have c_tk : Cal PR w K mg base (CX PR w) 4 "taken_step" ["scan"] (spTaken K A) := cal_of X G S F_tk (F_tk.bindsN fun _ _ _ _ _ _ us hl => match us, hl with | [_], _ => rfl) (wk_taken_step B T c_to (met_up c_ah (by decide)) (met_up c_st (by decide)) c_tn F_tk (fun vs H Q E z => by obtain ⟨_, _, _, _, rfl, _⟩ := z; rfl) fun vs H Q E z => pr_taken Z.S Z.Y vs H Q E z)
  -- the law's own
  obtain ⟨_, F_pn⟩ := def_of S 21 (x := "_law_pen") (st := st_law_pen)
  have c_pn : Cal PR w K mg base CX0 1 "_law_pen" ["script"] (spPen K) := cal_of X G S F_pn (F_pn.bindsN fun _ _ _ _ _ _ us hl => match us, hl with | [_], _ => rfl) (wk_law_pen B T F_pn (fun vs H Q E z => by obtain ⟨_, _, rfl, _⟩ := z; rfl) fun vs H Q E z => pr_pen vs H Q E z)
  obtain ⟨_, F_dr⟩ := def_of S 22 (x := "_law_draw") (st := st_law_draw)
  have c_dr : Cal PR w K mg base CX0 1 "_law_draw" ["pen", "most"] (spDraw K) := cal_of X G S F_dr (F_dr.bindsN fun _ _ _ _ _ _ us hl => match us, hl with | [_, _], _ => rfl) (wk_law_draw B T F_dr (fun vs H Q E z => by obtain ⟨_, _, _, _, rfl, _⟩ := z; rfl) fun vs H Q E z => pr_draw vs H Q E z)
  obtain ⟨_, F_pk⟩ := def_of S 23 (x := "_law_pick") (st := st_law_pick)
  have c_pk : Cal PR w K mg base CX0 2 "_law_pick" ["pen", "some"] (spPick K) := cal_of X G S F_pk (F_pk.bindsN fun _ _ _ _ _ _ us hl => match us, hl with | [_, _], _ => rfl) (wk_law_pick B T c_dr F_pk (fun vs H Q E z => by obtain ⟨_, _, _, _, _, rfl, _⟩ := z; rfl) fun vs H Q E z => pr_pick vs H Q E z)
  obtain ⟨_, F_lf⟩ := def_of S 25 (x := "_law_figure") (st := st_law_figure)
  have c_lf : Cal PR w K mg base CX0 1 "_law_figure" ["word", "low", "high"] (spLFigure K) := cal_of X G S F_lf (F_lf.bindsN fun _ _ _ _ _ _ us hl => match us, hl with | [_, _, _], _ => rfl) (wk_law_figure B T F_lf (fun vs H Q E z => z.len) fun vs H Q E z => pr_lfigure vs H Q E z)
  obtain ⟨_, F_fm⟩ := def_of S 26 (x := "_law_step_form") (st := st_law_step_form)
  have c_fm : Cal PR w K mg base CX0 1 "_law_step_form" ["value"] (spForm K) := cal_of X G S F_fm (F_fm.bindsN fun _ _ _ _ _ _ us hl => match us, hl with | [_], _ => rfl) (wk_law_step_form B T F_fm (fun vs H Q E z => z.len) fun vs H Q E z => pr_form vs H Q E z)
  obtain ⟨_, F_as⟩ := def_of S 27 (x := "_law_any_step") (st := st_law_any_step)
  have c_as : Cal PR w K mg base CX0 3 "_law_any_step" ["pen"] (spAny K) := cal_of X G S F_as (F_as.bindsN fun _ _ _ _ _ _ us hl => match us, hl with | [_], _ => rfl) (wk_law_any_step B T (cal_up c_dr (by decide)) c_pk F_as (fun vs H Q E z => by obtain ⟨_, _, _, rfl, _⟩ := z; rfl) fun vs H Q E z => pr_any vs H Q E z)
  obtain ⟨_, F_ln⟩ := def_of S 28 (x := "_law_step_line") (st := st_law_step_line)
  have c_ln : Cal PR w K mg base CX0 1 "_law_step_line" ["step"] (spLine K) := cal_of X G S F_ln (F_ln.bindsN fun _ _ _ _ _ _ us hl => match us, hl with | [_], _ => rfl) (wk_law_step_line B T F_ln (fun vs H Q E z => z.len) fun vs H Q E z => pr_line vs H Q E z)
  obtain ⟨_, F_lw⟩ := def_of S 29 (x := "_law_line_wrong") (st := st_law_line_wrong)
  have c_lw : Cal PR w K mg base CX0 2 "_law_line_wrong" ["words"] (spWrong K) := cal_of X G S F_lw (F_lw.bindsN fun _ _ _ _ _ _ us hl => match us, hl with | [_], _ => rfl) (wk_law_line_wrong B T c_lf F_lw (fun vs H Q E z => by obtain ⟨_, _, _, rfl, _⟩ := z; rfl) fun vs H Q E z => pr_wrong vs H Q E z)
  obtain ⟨_, F_bt⟩ := def_of S 30 (x := "_law_bent") (st := st_law_bent)
  have c_bt : Cal PR w K mg base CX0 3 "_law_bent" ["pen", "lines"] (spBent K) := cal_of X G S F_bt (F_bt.bindsN fun _ _ _ _ _ _ us hl => match us, hl with | [_, _], _ => rfl) (wk_law_bent B T (cal_up c_dr (by decide)) c_pk F_bt (fun vs H Q E z => by obtain ⟨_, _, _, _, _, _, _, rfl, _⟩ := z; rfl) fun vs H Q E z => pr_bent vs H Q E z)
  exact ⟨cal_up c_int (by decide), cal_up c_wi (by decide), cal_up c_li (by decide), cal_up c_pl (by decide), cal_up c_fi (by decide), met_up c_ov (by decide), met_up c_ah (by decide), met_up c_st (by decide), met_up c_to (by decide), met_up c_tn (by decide), met_up c_el (by decide), cal_up c_so (by decide),
    cal_up c_is (by decide), cal_up c_sw (by decide), cal_up c_tx (by decide), cal_up c_tk (by decide), cal_up c_pn (by decide), cal_up c_dr (by decide), cal_up c_pk (by decide), cal_up c_lf (by decide), cal_up c_fm (by decide), cal_up c_ln (by decide), cal_up c_lw (by decide), cal_up c_as (by decide), cal_up c_bt (by decide)⟩
end
end NvK
set_option Elab.async false
set_option linter.all false
set_option maxRecDepth 100000
set_option maxHeartbeats 1000000
/-! fixed, program_text, read_program; the law's own def. -/
namespace NvK
open PySem PySem.W PySem.Spec PyProof.Rows PySem.HandSPX
section
variable {w : World} {K : Frag} {mg : Str → Option Value} {h : Heap}
open Nv L2 in
theorem fixed_of {A : Ads} {base : Heap} (X : K.In h) (G : h.Ns mainGlobals mg) (S : SaysN w h K) (Z : Fx A w K mg) : ∀ n : Nat, Cal PR w K mg base CX0 (n + 1) "fixed" ["value"] (spFixed K n)
  | 0 => by
    obtain ⟨_, F⟩ := def_of S 4 (x := "fixed") (st := st_fixed)
    refine cal_of X G S F (F.bindsN fun _ _ _ _ _ _ us hl => match us, hl with | [_], _ => rfl) ⟨fun vs H Q E z => z.len, fun A' outer s H args us vs Q E hr he hb hv hs => ?_⟩
    obtain ⟨_, _, _, _, _, ⟨d, _, _, hd⟩, _⟩ := hs
    exact absurd hd (Nat.not_lt_zero _)
  | n + 1 => by
    obtain ⟨_, F⟩ := def_of S 4 (x := "fixed") (st := st_fixed)
    exact cal_of X G S F (F.bindsN fun _ _ _ _ _ _ us hl => match us, hl with | [_], _ => rfl) (wk_fixed Z.B Z.T (fixed_of X G S Z n) F (fun vs H Q E z => z.len) fun vs H Q E z => pr_fixed n vs H Q E z)
open Nv L2 in
theorem progtext_of {A : Ads} {base : Heap} (X : K.In h) (G : h.Ns mainGlobals mg) (S : SaysN w h K) (Z : Fx A w K mg) : Cal PR w K mg base (CX PR w) 16 "program_text" ["program"] (spProgText K A) := by
  have V := at_of (base := base) X G S Z
  obtain ⟨_, F_nd⟩ := def_of S 15 (x := "need_steps") (st := st_need_steps)
  have c_nd : Cal PR w K mg base (CX PR w) 15 "need_steps" ["program"] (spNeed K A) := cal_of X G S F_nd (F_nd.bindsN fun _ _ _ _ _ _ us hl => match us, hl with | [_], _ => rfl) (wk_need_steps Z.B Z.T (cal_up V.listed (by decide)) (cal_up V.step (by decide)) (fixed_of X G S Z 13) F_nd (fun vs H Q E z => z.len) fun vs H Q E z => pr_need vs H Q E z)
  obtain ⟨_, F⟩ := def_of S 18 (x := "program_text") (st := st_program_text)
  exact cal_of X G S F (F.bindsN fun _ _ _ _ _ _ us hl => match us, hl with | [_], _ => rfl) (wk_program_text Z.B Z.T c_nd (cal_up V.text (by decide)) F (fun vs H Q E z => z.len) fun vs H Q E z => pr_progtext vs H Q E z)
open Nv L2 in
theorem read_of {A : Ads} {base : Heap} (X : K.In h) (G : h.Ns mainGlobals mg) (S : SaysN w h K) (Z : Fx A w K mg) : Cal PR w K mg base (CX PR w) 7 "read_program" ["text"] (spRead K A) := by
  have V := at_of (base := base) X G S Z
  obtain ⟨_, F⟩ := def_of S 20 (x := "read_program") (st := st_read_program)
  exact cal_of X G S F (F.bindsN fun _ _ _ _ _ _ us hl => match us, hl with | [_], _ => rfl) (wk_read_program Z.B Z.T V.scanof V.over V.taken V.endline F (fun vs H Q E z => z.len) fun vs H Q E z => pr_read Z.S vs H Q E z)
/-- the law's code object, its table -/
abbrev cL (K : Frag) : Addr × Addr := He.cT K ("law", none)
abbrev qLam : Str := "law" ++ ".<locals>." ++ "<lambda>"
open Nv L2 in
theorem law_ok {A : Ads} {base : Heap} (X : K.In h) (G : h.Ns mainGlobals mg) (S : SaysN w h K) (Z : Fx A w K mg) {fd : FuncData} (F : FnP K "law" "law" st_law (He.ga K "law") fd) (TB : LamX.TabB base mg (cL K).1 (cL K).2) : FnOk PR w K mg base CX0 19 (He.ga K "law") fd ["script"] (spLaw K [((cL K).2, qLam)]) := by
  have V := at_of (base := base) X G S Z
  obtain ⟨fdh, Fh⟩ := def_of S 24 (x := "_law_heard") (st := st_heard)
  obtain ⟨oc, od, dV, kV, doc, pm, an, cdv, ct, osl, rfl, lk, hcd, _, _⟩ := F.ex
  obtain ⟨c, rfl⟩ := He.codeIn_ref hcd
  have ec : He.codeOf K ("law", none) = c := He.codeOf_eq (p := ("law", none)) lk rfl
  have TB' : LamX.TabB base mg c (cL K).2 := by
    rw [← ec]; exact TB
  refine fn_of (k := 18) lk hcd sc_law (fun vs H Q E z => by obtain ⟨_, _, rfl, _⟩ := z; rfl) fun A' outer s H vs Q E hr hsp => ?_
  exact ⟨_, PSs.nox (wt_law (A := A) (k := 16) Z.B Z.T Z.H (cal_up V.pen (by decide)) (cal_up V.draw (by decide)) (cal_up V.any (by decide)) (cal_up V.line (by decide)) (cal_up V.bent (by decide)) (cal_up V.wrong (by decide)) (cal_up (read_of X G S Z) (by decide)) (progtext_of X G S Z) (cal_up V.form (by decide)) (cal_up V.pick (by decide)) (glo_of X G S) Fh TB' hr), pr_law vs H Q E hsp⟩
end
end NvK
set_option Elab.async false
set_option linter.all false
set_option maxRecDepth 100000
set_option maxHeartbeats 1000000
/-! The end. -/
namespace NvK
open PySem PySem.W PySem.Spec PyProof.Rows PySem.HandSPX
abbrev LW : PySem.W.OpenLaw := PySem.Challenge.rw_nevergone_k94_texts_of_programs_refused
theorem law_at {w : World} {K : Frag} {mg : Str → Option Value} {h : Heap} {fa : Addr} (X : K.In h) (G : h.Ns mainGlobals mg) (S : SaysN w h K) (hmg : mg ("law" : Str) = some (.ref fa)) : LamX.LawAtS LW w K L2.CX0 19 63 "script" mg fa h := by
  obtain ⟨A, Z⟩ := fx_of X G S
  have e := hmg.symm.trans (glo_of X G S (x := "law"))
  cases e
  obtain ⟨fd, F⟩ := def_of S 31 (x := "law") (st := Nv.st_law)
  have one : ∀ {q : Addr × Addr → Prop}, q (cL K) → ∀ p ∈ [cL K], q p := fun hq p hp => by
    rw [List.mem_singleton.mp hp]; exact hq
  have hm : (("law", none) : He.Defn) ∈ tfL := List.mem_singleton.mpr rfl
  have b := L2.FunD.bindsA (ps := ["script"]) F fun _ _ _ _ _ _ us hl => match us, hl with | [_], _ => rfl
  refine ⟨fd, [cL K], Nv.spLaw K [((cL K).2, qLam)], one (S.x.empty _ hm), one (S.x.out _ hm), one (PySem.W.codeHd_of_K X (S.x.hd _ hm)), fun s u => b s [u] rfl, fun H a ns hl _ ht hs => ?_, fun base _ _ TB => law_ok X G S Z F (TB _ (List.mem_singleton.mpr rfl))⟩
  refine ⟨a, ns, rfl, hs, by omega, fun p hp => ?_, fun _ => rfl⟩
  rw [List.mem_singleton.mp hp]
  exact LamX.TabS.nil (ht _ (List.mem_singleton.mpr rfl))
end NvK
set_option maxHeartbeats 0
open PySem PySem.W PySem.Calls PyProof.Rows
theorem PySem.Challenge.cw_nevergone_k94_texts_of_programs_refused_holds : PySem.Challenge.rw_nevergone_k94_texts_of_programs_refused.Holds := by
  w_on; o_law
  refine HandSHeadRun.head_any (r := NvK.R) (q := view NvK.R.prog [51]) (H := NvK.hk) (ob := NvK.ob) (M := 4800) (loose := NvK.lo) (d := HandSHeadRun.topDef NvK.R.prog 51) (kwd := []) NvK.ob_eq
    (by kernel_rfl) (fun s => by kernel_rfl) NvK.run (by kernel_rfl) (by kernel_rfl) (by kernel_rfl) (by rfl) (by first | assumption | decide +kernel) (by decide +kernel) ⟨rfl, rfl, rfl, rfl, rfl, by decide +kernel⟩ ?hw ?hc
  case hw => w_witness2
  case hc =>
    refine LamX.walk_ofTsE (l := NvK.LW) (n := 63) (k := 19) (x := "script") (CX := fun _ => L2.CX0) rfl (by decide) (by kernel_rfl) ⟨rfl, by decide, by decide⟩ ?F (fun _ _ _ _ _ z => z)
    intro w mg fa h Y G hmg0
    obtain ⟨K, KX, S⟩ := Y
    have hmg : mg ("law" : PySem.Str) = some (.ref fa) := by
      have e : (HandSHeadRun.topDef NvK.R.prog 51).name = ("law" : PySem.Str) := by kernel_rfl
      rw [← e]
      exact hmg0
    exact ⟨K, KX, NvK.law_at KX G S hmg⟩
