import PyProof.Rows.All
import Wide.All
import OpenK.AllK
import Wide.FinOn
import PyProof.EqAt
import PyProof.EqKinds
import PyProof.TupleCall
import KE.KExcSuper
import KE.KSuper
import HandS.Base
import HandS.Call
import HandS.List
import HandS.Exc
import HandS.ExcField
import HandS.ExcIs
import HandS.IsInst
import HandS.Words
import HandS.More
import HandS.Defaults
import HandS.Codes
import HandS.HeadHook1
import HandS.HeadHook2
import HandS.HeadHook3
import HandS.HeadHook4
import KE.KStateDown
import Lean
import Wide.Once
import HandS.Head0
import HandS.Head1
import HandS.Head2
import PyProof.FString
import PyProof.FString4
import HandS.ExcInit
import KE.KDflt
import HandS.Lambda
import HandS.WordsExc
import HandS.ForMost
import HandS.Evl
import HandS.Star
import HandS.Zip
import HandS.Flow
import KE.GoesEnum
import KE.KDictZip
import HandS.Dict
import HandS.Text
import HandS.Comp
import HandS.Conv
import HandS.OwnEq
import PyProof.InstNe
import PyProof.DictUpdate
import PyProof.SumAny
import PyProof.ListOps
import HandS.RaiseMore
import PyProof.ReprRoads
import HandS.TupAny
import HandS.Style
import PyProof.ReprLen
import HandS.EndTab
import HandS.HeadWalk
import PySem.Challenge.RW_nevergone_k91_texts_of_houses_written_an
set_option Elab.async false
set_option linter.all false
set_option maxRecDepth 100000
set_option maxHeartbeats 1000000
/-! What the head is asked. -/
namespace NvK
open PySem PySem.W PySem.Spec PyProof.Rows PySem.HandSPX
abbrev PR : Program := PySem.Challenge.pw_nevergone_k91_texts_of_houses_written_an
def stX (i : Nat) : Stmt := (C8.clsBody (PR.main.body.getD i (.Pass ⟨0, 0, 0, 0⟩))).getD 0 (.Pass ⟨0, 0, 0, 0⟩)
def clsB (K : Frag) (C : Addr) : Bool := match K.lookup C with
  | some ⟨.type t, _, .cls cd, sl⟩ => (match cd.mro, sl.toList with
    | .ref D :: bm, [_, _, _, _, some (.builtin n), _] => decide (t = "type") && (decide (D = C) && (decide (n = "ValueError.__new__") && (!cd.hasDel && (cd.hasDict && refsVE bm))))
    | _, _ => false)
  | _ => false
abbrev FnZ : Type := Option (Str × Str × Arguments × FuncBody × Scope × Addr × List Str × Value × Addr)
def fnZ (K : Frag) (f : Addr) : FnZ := match K.lookup f with
  | some ⟨_, _, .func fd, _⟩ => some (fd.name, fd.qualname, fd.params, fd.body, fd.scope, fd.globals, fd.closure.map (·.1), fd.defaults, fd.builtins)
  | _ => none
structure InD where
  cls : Str
  st : Stmt
def InD.C (K : Frag) (d : InD) : Addr := He.ga K d.cls
def InD.f (K : Frag) (d : InD) : Addr := He.ma K (d.C K) "__init__"
def InD.val (d : InD) : FnZ := some ("__init__", d.cls ++ ".__init__", L2.defArgs d.st, .stmts (L2.defBody d.st), L2.defScope d.st, mainGlobals, ["__class__"], .none, builtinsNs)
def fileB (K : Frag) (F : Str) (v : Value) : Bool := match v with
  | .ref c => (match K.lookup c with
    | some ⟨_, _, .fields vs, _⟩ => (match (vs[2]? : Option Value) with
      | some (.str x _) => F == x
      | _ => false)
    | _ => false)
  | _ => false
def cellB (K : Frag) (C : Addr) (l : List (Str × Addr)) : Bool := match l with
  | [(_, c)] => (match K.lookup c with
    | some ⟨_, _, .cell (some (.ref D)), _⟩ => decide (D = C)
    | _ => false)
  | _ => false
def initB (K : Frag) (F : Str) (d : InD) : Bool := match K.lookup (d.f K) with
  | some ⟨_, _, .func fd, _⟩ => codeIn K fd.code (d.cls ++ ".__init__") && (fileB K F fd.code && cellB K (d.C K) fd.closure)
  | _ => false
def excL (K : Frag) (F : Str) (d : InD) (fs : List Str) : List Bool :=
  [clsB K (d.C K), He.eqO (findIn K (.ref (d.C K)) "__setattr__") (some (some (.builtin "object.__setattr__"))), L2.xfB K (d.C K), fs.all fun f => He.eqO (findIn K (.ref (d.C K)) f) (some none),
    He.eqO (findIn K (.ref (d.C K)) "__init__") (some (some (.ref (d.f K)))), decide (typeIn K (.ref (d.f K)) = some (.type "function")), keepIn K (.ref (d.C K)), decide (subIn K (.ref (d.C K)) (.type "ValueError") = some true),
    decide (typeIn K (.ref (d.C K)) = some (.type "type")), He.eqO (nsIn K mainGlobals "super") (some none), He.eqO (nsIn K cStatics "thirdparty.any") (some none), He.eqO (ks_superIn K (d.C K) (d.C K) "__init__") (some (some (.builtin "ValueError.__init__"))),
    decide (mroIn K (d.C K) (.ref (d.C K)) = some true), initB K F d, He.eqO (findIn K (.ref (d.C K)) "__class__") (some (some (.builtin "object.__class__"))), He.eqO (specialIn K (.builtin "object.__class__") "__get__") (some (some (.builtin "getset_descriptor.__get__"))),
    decide (takesIn K (.builtin "object.__class__") = some true), decide (mroIn K (d.C K) (.type "object") = some true)]
def inText : InD := ⟨"BadText", stX 17⟩
def inHouse : InD := ⟨"BadHouse", stX 11⟩
def inMisfit : InD := ⟨"Misfit", stX 19⟩
/-! ### what is asked -/
def dD (x : Str) (df : List He.Dv) (st : Stmt) : He.DefD := ⟨(x, none), x, x, L2.defArgs st, L2.defBody st, L2.defScope st, df, []⟩
def dM (c x : Str) (df : List He.Dv) (st : Stmt) : He.DefD := ⟨(c, some x), x, c ++ "." ++ x, L2.defArgs st, L2.defBody st, L2.defScope st, df, []⟩
def dfH : List He.Dv := [.str "first", .adr (He.dflAt ("House", some "__init__") 1), .int 0, .str "finish", .bl false, .glo "BREAKS"]
def fnA : List He.DefD := [dD "is_integer" [] (PR.main.body.getD 2 (.Pass ⟨0, 0, 0, 0⟩)), dD "is_within" [] (PR.main.body.getD 3 (.Pass ⟨0, 0, 0, 0⟩)), dD "is_listed" [] (PR.main.body.getD 4 (.Pass ⟨0, 0, 0, 0⟩)), dD "is_lot" [] (PR.main.body.getD 5 (.Pass ⟨0, 0, 0, 0⟩)), dD "is_word" [] (PR.main.body.getD 6 (.Pass ⟨0, 0, 0, 0⟩)), dD "is_word_lot" [] (PR.main.body.getD 7 (.Pass ⟨0, 0, 0, 0⟩)), dD "is_plain_tuple" [] (PR.main.body.getD 8 (.Pass ⟨0, 0, 0, 0⟩)), dD "fixed" [] (PR.main.body.getD 23 (.Pass ⟨0, 0, 0, 0⟩)), dD "are_kinds" [] (PR.main.body.getD 38 (.Pass ⟨0, 0, 0, 0⟩)), dD "is_kind" [] (PR.main.body.getD 39 (.Pass ⟨0, 0, 0, 0⟩)), dD "is_collector" [] (PR.main.body.getD 40 (.Pass ⟨0, 0, 0, 0⟩)), dD "need_parts" [] (PR.main.body.getD 41 (.Pass ⟨0, 0, 0, 0⟩)), dD "misfit_of" [] (PR.main.body.getD 42 (.Pass ⟨0, 0, 0, 0⟩)), dD "need_house" [.str "house"] (PR.main.body.getD 44 (.Pass ⟨0, 0, 0, 0⟩))]
def fnB : List He.DefD := [dD "is_figure" [] (PR.main.body.getD 47 (.Pass ⟨0, 0, 0, 0⟩)), dD "scan_of" [] (PR.main.body.getD 49 (.Pass ⟨0, 0, 0, 0⟩)), dD "kind_words" [] (PR.main.body.getD 55 (.Pass ⟨0, 0, 0, 0⟩)), dD "collector_words" [] (PR.main.body.getD 56 (.Pass ⟨0, 0, 0, 0⟩)), dD "house_rows" [] (PR.main.body.getD 57 (.Pass ⟨0, 0, 0, 0⟩)), dD "house_text" [] (PR.main.body.getD 58 (.Pass ⟨0, 0, 0, 0⟩)), dD "taken_after" [] (PR.main.body.getD 59 (.Pass ⟨0, 0, 0, 0⟩)), dD "taken_word" [] (PR.main.body.getD 60 (.Pass ⟨0, 0, 0, 0⟩)), dD "taken_lot" [] (PR.main.body.getD 61 (.Pass ⟨0, 0, 0, 0⟩)), dD "taken_link" [] (PR.main.body.getD 62 (.Pass ⟨0, 0, 0, 0⟩)), dD "taken_kind" [] (PR.main.body.getD 63 (.Pass ⟨0, 0, 0, 0⟩)), dD "kinds_ahead" [] (PR.main.body.getD 64 (.Pass ⟨0, 0, 0, 0⟩)), dD "taken_kinds" [] (PR.main.body.getD 65 (.Pass ⟨0, 0, 0, 0⟩)), dD "taken_collector" [] (PR.main.body.getD 66 (.Pass ⟨0, 0, 0, 0⟩)), dD "taken_count" [] (PR.main.body.getD 67 (.Pass ⟨0, 0, 0, 0⟩)), dD "taken_pace" [] (PR.main.body.getD 68 (.Pass ⟨0, 0, 0, 0⟩)), dD "taken_asked" [] (PR.main.body.getD 69 (.Pass ⟨0, 0, 0, 0⟩)), dD "taken_house" [] (PR.main.body.getD 70 (.Pass ⟨0, 0, 0, 0⟩)), dD "read_house" [] (PR.main.body.getD 71 (.Pass ⟨0, 0, 0, 0⟩))]
def fnC : List He.DefD := [dD "_law_pen" [] (PR.main.body.getD 73 (.Pass ⟨0, 0, 0, 0⟩)), dD "_law_draw" [] (PR.main.body.getD 74 (.Pass ⟨0, 0, 0, 0⟩)), dD "_law_pick" [] (PR.main.body.getD 75 (.Pass ⟨0, 0, 0, 0⟩)), dD "_law_lot" [] (PR.main.body.getD 76 (.Pass ⟨0, 0, 0, 0⟩)), dD "_law_heard" [] (PR.main.body.getD 77 (.Pass ⟨0, 0, 0, 0⟩)), dD "_law_any_plain" [] (PR.main.body.getD 78 (.Pass ⟨0, 0, 0, 0⟩)), dD "_law_whole_house" [] (PR.main.body.getD 79 (.Pass ⟨0, 0, 0, 0⟩)), dD "_law_house_lines" [] (PR.main.body.getD 80 (.Pass ⟨0, 0, 0, 0⟩)), dD "law" [] (PR.main.body.getD 81 (.Pass ⟨0, 0, 0, 0⟩))]
def fnM : List He.DefD := [dM "House" "__init__" dfH ((C8.clsBody (PR.main.body.getD 43 (.Pass ⟨0, 0, 0, 0⟩))).getD 0 (.Pass ⟨0, 0, 0, 0⟩)), dM "House" "__eq__" [] ((C8.clsBody (PR.main.body.getD 43 (.Pass ⟨0, 0, 0, 0⟩))).getD 1 (.Pass ⟨0, 0, 0, 0⟩)), dM "House" "row" [] ((C8.clsBody (PR.main.body.getD 43 (.Pass ⟨0, 0, 0, 0⟩))).getD 2 (.Pass ⟨0, 0, 0, 0⟩)), dM "Scan" "__init__" [] ((C8.clsBody (PR.main.body.getD 48 (.Pass ⟨0, 0, 0, 0⟩))).getD 0 (.Pass ⟨0, 0, 0, 0⟩)), dM "Scan" "is_over" [] ((C8.clsBody (PR.main.body.getD 48 (.Pass ⟨0, 0, 0, 0⟩))).getD 1 (.Pass ⟨0, 0, 0, 0⟩)), dM "Scan" "ahead" [] ((C8.clsBody (PR.main.body.getD 48 (.Pass ⟨0, 0, 0, 0⟩))).getD 2 (.Pass ⟨0, 0, 0, 0⟩)), dM "Scan" "stop" [] ((C8.clsBody (PR.main.body.getD 48 (.Pass ⟨0, 0, 0, 0⟩))).getD 3 (.Pass ⟨0, 0, 0, 0⟩)), dM "Scan" "take_of" [] ((C8.clsBody (PR.main.body.getD 48 (.Pass ⟨0, 0, 0, 0⟩))).getD 4 (.Pass ⟨0, 0, 0, 0⟩)), dM "Scan" "take_number" [] ((C8.clsBody (PR.main.body.getD 48 (.Pass ⟨0, 0, 0, 0⟩))).getD 5 (.Pass ⟨0, 0, 0, 0⟩)), dM "Scan" "end_line" [] ((C8.clsBody (PR.main.body.getD 48 (.Pass ⟨0, 0, 0, 0⟩))).getD 7 (.Pass ⟨0, 0, 0, 0⟩)), dM "Scan" "finish" [] ((C8.clsBody (PR.main.body.getD 48 (.Pass ⟨0, 0, 0, 0⟩))).getD 8 (.Pass ⟨0, 0, 0, 0⟩))]
def fnL : List He.DefD := fnA ++ (fnB ++ (fnC ++ fnM))
def gloL : List Str := [("is_integer" : Str), ("is_within" : Str), ("is_listed" : Str), ("is_lot" : Str), ("is_word" : Str), ("is_word_lot" : Str), ("is_plain_tuple" : Str), ("fixed" : Str), ("are_kinds" : Str), ("is_kind" : Str), ("is_collector" : Str), ("need_parts" : Str), ("misfit_of" : Str), ("need_house" : Str), ("is_figure" : Str), ("scan_of" : Str), ("kind_words" : Str), ("collector_words" : Str), ("house_rows" : Str), ("house_text" : Str), ("taken_after" : Str), ("taken_word" : Str), ("taken_lot" : Str), ("taken_link" : Str), ("taken_kind" : Str), ("kinds_ahead" : Str), ("taken_kinds" : Str), ("taken_collector" : Str), ("taken_count" : Str), ("taken_pace" : Str), ("taken_asked" : Str), ("taken_house" : Str), ("read_house" : Str), ("_law_pen" : Str), ("_law_draw" : Str), ("_law_pick" : Str), ("_law_lot" : Str), ("_law_heard" : Str), ("_law_any_plain" : Str), ("_law_whole_house" : Str), ("_law_house_lines" : Str), ("law" : Str), ("ROOMS" : Str), ("GUARDS" : Str), ("REMEMBERS" : Str), ("ORDERS" : Str), ("NEEDS" : Str), ("BREAKS" : Str), ("COLLECTORS" : Str), ("TRUTHS" : Str), ("Scan" : Str), ("House" : Str), ("GoneError" : Str), ("BadHouse" : Str), ("BadHeap" : Str), ("BadStep" : Str), ("BadProgram" : Str), ("BadNumber" : Str), ("BadValue" : Str), ("BadText" : Str), ("BadLine" : Str), ("Misfit" : Str), ("Nothing" : Str), ("TooMany" : Str)]
def freeL : List Str := ["all", "len", "isinstance", "abs", "int", "str", "bool", "list", "tuple", "range", "enumerate", "zip", "min", "max", "sum", "repr"]
def methL : List (Str × Str) := [("House", "row"), ("Scan", "is_over"), ("Scan", "ahead"), ("Scan", "stop"), ("Scan", "take_of"), ("Scan", "take_number"), ("Scan", "end_line"), ("Scan", "finish")]
def intL : List (Str × Int) := [("MOST_CELLS", 12), ("MOST_KINDS", 3), ("MOST_SIZE", 3), ("MOST_LINKS", 2), ("MOST_REGISTERS", 4), ("MOST_PACE", 6), ("MOST_COUNT", 3)]
def lastL : List He.Fa := [.str "NONE" "-", .str "FREE" "free", .str "FIGURES" "0123456789", .cls "Scan", .cls "House", .noat "Scan" "lines", .noat "Scan" "line", .noat "Scan" "at", .mkr "Scan", .mkr "House", .exm "BadHouse" "GoneError" true, .noat "BadHouse" "part", .noat "House" "cells", .noat "House" "kinds", .noat "House" "registers", .noat "House" "live", .noat "House" "rooms", .noat "House" "collector", .noat "House" "word", .noat "House" "pace", .noat "House" "need", .noat "House" "slide", .noat "House" "asked"]
def faL : List He.Fa := gloL.map He.Fa.glo ++ (freeL.map He.Fa.free ++ (methL.map (fun p => He.Fa.meth p.1 p.2) ++ (intL.map (fun p => He.Fa.int p.1 p.2) ++ lastL)))
def tsL : List He.Tab := []
def tfL : List He.Defn := [("law", none)]
def isL : List InD := [inText, inHouse, inMisfit]
def tupL : List (Str × List Str) := [("ROOMS", ["first", "last", "best", "worst", "buddy", "slots"]), ("GUARDS", ["after", "again", "before", "black", "load"]), ("REMEMBERS", ["all", "first", "none"]), ("ORDERS", ["more", "less"]), ("NEEDS", ["finish", "refuse"]), ("BREAKS", ["full", "lost", "swept"]), ("COLLECTORS", ["none", "counts", "marks", "halves", "young"]), ("TRUTHS", ["no", "yes"])]
def othL : List Str := ["TooMany", "BadText", "BadProgram", "BadLine", "BadHeap", "BadStep", "BadNumber", "BadValue", "Misfit", "Nothing"]
def baseL : List Value := [.type "NoneType", .type "bool", .type "int", .type "str", .type "list", .type "tuple", .type "dict"]
def kitL (K : Frag) : List Bool := [(othL.all fun x => decide (kitOne K (.ref (He.ga K "BadHouse")) (.ref (He.ga K x)) = some false)), decide (kitOne K (.ref (He.ga K "BadHouse")) (.ref (He.ga K "BadHouse")) = some true),
  decide (kitOne K (.ref (He.ga K "House")) (.ref (He.ga K "House")) = some true), (baseL.all fun t => decide (kitOne K t (.ref (He.ga K "House")) = some false)), (tupL.all fun p => He.tupB K p.1 (p.2.map He.Dv.str))]
/-- House's own == -/
def ownB (K : Frag) (C f : Addr) : Bool := (match K.lookup C with
  | some ⟨.type t, _, .cls cd, sl⟩ => (match cd.mro, sl.toList, cd.ns with
    | [.ref D, .type o], [_, _, _, _, some (.builtin n), _], N => decide (t = "type") && (decide (D = C) && (decide (o = "object") && (!cd.hasDel && (nsOkIn K N && (He.eqO (nsIn K N "__eq__") (some (some (.ref f))) && He.eqO (nsIn K N "__ne__") (some none))))))
    | _, _, _ => false)
  | _ => false) && (He.eqO (findIn K (.ref C) "__eq__") (some (some (.ref f))) && isFn K (.ref f))
def insB (K : Frag) (C : Addr) : Bool := He.eqO (findIn K (.ref C) "__class__") (some (some (.builtin "object.__class__"))) && (He.eqO (specialIn K (.builtin "object.__class__") "__get__") (some (some (.builtin "getset_descriptor.__get__"))) && (decide (takesIn K (.builtin "object.__class__") = some true) && decide (mroIn K C (.type "object") = some true)))
def exN (K : Frag) : Bool := (excL K PR.main.file inText ["line", "word"]).all id && ((excL K PR.main.file inHouse ["part"]).all id && ((excL K PR.main.file inMisfit ["part"]).all id && ((kitL K).all id && (ownB K (He.ga K "House") (He.ma K (He.ga K "House") "__eq__") && insB K (He.ga K "House")))))
/-! ### the hook -/
def asN (g : Addr → Option Obj) (n : Nat) : List Addr := cStatics :: He.asD g n
abbrev AlN : Type := He.AlT × (List FnZ × Bool)
def obsK (g : Addr → Option Obj) (K : Frag) : AlN := (He.obsT faL fnL tsL K, (isL.map fun d => fnZ K (d.f K), exN K && He.tabsB g tfL K))
def obsN (n : Nat) (g : Addr → Option Obj) : AlN := obsK g (He.frT g (asN g n))
def valN (w : World) : AlN := (He.valT fnL tsL w, (isL.map InD.val, true))
structure SaysN (w : World) (h : Heap) (K : Frag) : Prop where
  x : He.SaysX faL fnL tsL tfL exN w h K
  z : isL.map (fun d => fnZ K (d.f K)) = isL.map InD.val
theorem saysN_of {n : Nat} {w : World} {h : Heap} (e : obsN n h.get? = valN w) : SaysN w h (He.frT h.get? (asN h.get? n)) := by
  have i1 := congrArg Prod.fst e
  have i2 := congrArg Prod.snd e
  have i3 := congrArg Prod.fst i2
  have i4 : (exN (He.frT h.get? (asN h.get? n)) && He.tabsB h.get? tfL (He.frT h.get? (asN h.get? n))) = true := congrArg Prod.snd i2
  obtain ⟨j1, j2⟩ := Bool.and_eq_true_iff.mp i4
  have tab : ∀ p ∈ tfL, codeHdIn (He.frT h.get? (asN h.get? n)) (He.cT (He.frT h.get? (asN h.get? n)) p).1 (He.cT (He.frT h.get? (asN h.get? n)) p).2 = true ∧ ∃ o, h.get? (He.cT (He.frT h.get? (asN h.get? n)) p).2 = some o ∧ He.emptyTab o = true := fun p hp => by
    have z := List.all_eq_true.mp j2 p hp
    obtain ⟨z1, z2⟩ := Bool.and_eq_true_iff.mp z
    refine ⟨z1, ?_⟩
    cases q : h.get? (He.cT (He.frT h.get? (asN h.get? n)) p).2 with
    | none => rw [q] at z2; cases z2
    | some o => rw [q] at z2; exact ⟨o, rfl, z2⟩
  refine ⟨⟨i1, j1, fun p hp => (tab p hp).1, fun p hp => ?_, fun p hp => ?_⟩, i3⟩
  · obtain ⟨_, o, q, em⟩ := tab p hp
    exact He.frT_none q em
  · obtain ⟨_, o, q, em⟩ := tab p hp
    rw [q]; exact congrArg some (He.emptyTab_eq em)
def hookN (n : Nat) : Hook where
  α := AlN
  obs := fun s => obsN n s.heap.get?
  val := valN
  says := fun w h => ∃ K : Frag, K.In h ∧ SaysN w h K
  of := fun _ _ e => ⟨_, He.frT_in, saysN_of e⟩
  keeps := fun _ _ _ ⟨K, hK, c⟩ k => ⟨K, PySem.W.Frag.In.keeps hK k, ⟨⟨c.x.t, c.x.more, c.x.hd, c.x.out, fun p hp => k _ _ (c.x.empty p hp)⟩, c.z⟩⟩
theorem obsN_eq {n : Nat} {g : Addr → Option Obj} {s : Shared} (h : ∀ a, g a = s.heap.get? a) : obsN n g = (hookN n).obs s := by
  have e : g = s.heap.get? := funext h
  subst e
  rfl
end NvK
set_option Elab.async false
set_option linter.all false
set_option maxRecDepth 100000
set_option maxHeartbeats 0
/-! The head's run. -/
namespace NvK
open PySem PySem.W PySem.Spec PyProof.Rows PySem.HandSPX
abbrev R : PySem.W.OpenRow := PySem.W.OpenLaw.row PySem.Challenge.rw_nevergone_k91_texts_of_houses_written_an
abbrev hk : PySem.W.Hook := hookN 6
def ob (s : PySem.W.SharedT) : AlN := obsN 6 (HandSHeadRun.getT s)
theorem ob_eq (s : PySem.W.SharedT) : ob s = hk.obs s.abs := obsN_eq (HandSHeadRun.getT_eq s)
def l0 : List Str := ["_wall", "is_integer", "is_within", "is_listed", "is_lot", "is_word", "is_word_lot", "is_plain_tuple", "GoneError", "BadHouse", "BadHeap", "BadStep", "BadProgram", "BadNumber", "BadValue", "BadText", "BadLine", "Misfit", "Nothing", "TooMany", "fixed", "MOST_CELLS", "MOST_KINDS", "MOST_SIZE", "MOST_LINKS"]
def l1 : List Str := ["MOST_REGISTERS", "MOST_PACE", "MOST_COUNT", "ROOMS", "GUARDS", "REMEMBERS", "ORDERS", "NEEDS", "BREAKS", "are_kinds", "is_kind", "is_collector", "need_parts", "misfit_of", "House", "need_house", "FIGURES", "is_figure", "Scan", "scan_of", "COLLECTORS", "FREE", "NONE", "TRUTHS", "kind_words"]
def l2 : List Str := ["collector_words", "house_rows", "house_text", "taken_after", "taken_word", "taken_lot", "taken_link", "taken_kind", "kinds_ahead", "taken_kinds", "taken_collector", "taken_count", "taken_pace", "taken_asked", "taken_house", "read_house", "_law_pen", "_law_draw", "_law_pick", "_law_lot", "_law_heard", "_law_any_plain", "_law_whole_house", "_law_house_lines"]
def lo : List Str := l0 ++ (l1 ++ l2)
theorem run0 (w : World) : HandSHeadRun.RunEq R (PySem.W.view R.prog [81]) hk ob 9600 lo (w.withFollow "special-get-raises" false) := by
  intro os
  kernel_rfl
theorem run1 (w : World) : HandSHeadRun.RunEq R (PySem.W.view R.prog [81]) hk ob 9600 lo (w.withFollow "special-get-raises" true) := by
  intro os
  kernel_rfl
theorem run (w : World) : HandSHeadRun.RunEq R (PySem.W.view R.prog [81]) hk ob 9600 lo w := PySem.W.byRow2 "special-get-raises" run0 run1 w
end NvK
set_option Elab.async false
set_option linter.all false
set_option maxRecDepth 100000
set_option maxHeartbeats 4000000
/-! Exceptions of the package: class X(GoneError): __init__ says super().__init__(f'..') and stores each parameter under its own name. -/
namespace NvX
open PySem PySem.W PySem.Calls PyProof.Rows PySem.HandSPX
/-- the stores self.f = f -/
def sts : List (Str × Pos × Pos × Pos × Pos) → List Stmt
  | [] => []
  | (f, q1, q2, q3, q4) :: r => .Assign [.Attribute (.Name "self" q1) f q2] (.Name f q3) q4 :: sts r
def initBody (p0 p1 p2 p3 p4 pj : Pos) (v1 v2 : Expr) (vr : List Expr) (fs : List (Str × Pos × Pos × Pos × Pos)) : List Stmt :=
  .Expr (.Call (.Attribute (.Call (.Name "super" p0) [] [] p1) "__init__" p2) [.JoinedStr (v1 :: v2 :: vr) pj] [] p3) p4 :: sts fs
/-- a part of the text: written, or a parameter -/
inductive Part : Expr → Prop where
  | con (x : Str) (j : Nat) (p : Pos) (h : x.length ≤ 1000) : Part (.Constant (.str x) j p)
  | fmt (f : Str) (p q : Pos) : Part (.FormattedValue (.Name f p) (-1) none q)
section
variable {prog : Program} {w : World} {A : Around} {E : Value → Shared → Prop} {s : Shared} {env : Env} {m : Str → Option Value}
def Small (v : Value) : Prop := (∃ x t, v = .str x t ∧ x.length ≤ 2000) ∨ ∃ i t, v = .int i t ∧ i.natAbs.log2 < 1920
theorem app_len (a b : Str) : (a ++ b).length = a.length + b.length := by
  show (Str.append a b).length = _
  simp [Str.append, Str.length]
theorem joins_ok (hk : env.scope.kind = .function) (hn : s.heap.Ns env.locals m) : ∀ (ps : List Expr) (acc : Str) (tk : Nat) (R : Str → Shared → Prop), (∀ e ∈ ps, Part e) →
    (∀ f p q, (.FormattedValue (.Name f p) (-1) none q : Expr) ∈ ps → env.kindOf f = some .local ∧ (f == ("__debug__" : Str)) = false ∧ ∃ v, m f = some v ∧ Small v) → acc.length + 2100 * ps.length ≤ 16000000 →
    (∀ out tk', out.length ≤ sizeLine → R out { s with toks := tk' }) → Joins (model prog w) A E (evalEach ps env) acc R { s with toks := tk }
  | [], acc, tk, R, _, _, hz, h => by
    have e0 : evalEach [] env = [] := by first | rfl | simp [evalEach]
    rw [e0]
    exact h acc tk (by rw [sizeLine_eq]; simp only [List.length_nil] at hz; omega)
  | e :: ps, acc, tk, R, hp, hf, hz, h => by
    have e0 : evalEach (e :: ps) env = eval e env :: evalEach ps env := by first | rfl | simp [evalEach]
    rw [e0]
    have hz' : acc.length + 2100 * (ps.length + 1) ≤ 16000000 := by simpa using hz
    have rec_ : ∀ (y : Str) (tk' : Nat), y.length ≤ 2100 → (acc ++ y).length ≤ sizeLine ∧ Joins (model prog w) A E (evalEach ps env) (acc ++ y) R { s with toks := tk' } := fun y tk' hy => by
      have e1 := app_len acc y
      refine ⟨by rw [sizeLine_eq, e1]; omega, joins_ok hk hn ps (acc ++ y) tk' R (fun e he => hp e (List.mem_cons_of_mem _ he)) (fun f p q hm => hf f p q (List.mem_cons_of_mem _ hm)) (by rw [e1]; omega) h⟩
    cases hp e List.mem_cons_self with
    | con x j p hx =>
      refine Calls.Constant_str ?_
      obtain ⟨h1, h2⟩ := rec_ x (tk + 1) (by omega)
      exact ⟨x, _, rfl, h1, h2⟩
    | fmt f p q =>
      obtain ⟨hl, hd, v, hv, hs⟩ := hf f p q List.mem_cons_self
      refine wpAny_FormattedValue_plain (wpAny_Name (wpAny_loadName_local hk hl hn hv ?_) hd)
      rcases hs with ⟨x, t, rfl, hx⟩ | ⟨i, t, rfl, hi⟩
      · refine wpAny_formatField_str ?_ ?_ (by rw [sizeLine_eq]; omega)
        · obtain ⟨h1, h2⟩ := rec_ x tk (by omega)
          exact ⟨x, _, rfl, h1, h2⟩
        · obtain ⟨h1, h2⟩ := rec_ x (tk + 1) (by omega)
          exact ⟨x, _, rfl, h1, h2⟩
      · refine wpAny_formatField_int hi ?_
        obtain ⟨h1, h2⟩ := rec_ (Str.ofString (toString i)) (tk + 1 + 1) (by have := PyProof.Rows.int_text_len_1921 hi; omega)
        exact ⟨_, _, rfl, h1, h2⟩
end
end NvX
set_option Elab.async false
set_option linter.all false
set_option maxRecDepth 100000
set_option maxHeartbeats 4000000
namespace NvX
open PySem PySem.W PySem.Calls PyProof.Rows PySem.HandSPX
/-- what the written part says of an exception class X at C, its __init__ at fI, its fields fs -/
structure Txt (prog : Program) (K : Frag) (mg : Str → Option Value) (x : Str) (C fI : Addr) (fs : List Str) : Prop where
  gC : mg x = some (.ref C)
  cls : ∃ nm q N bs bm sn sub ab col dd k0 k1 k2 k3 k5, K.lookup C = some (excClassObj nm q C N bs bm true sn sub ab col dd k0 k1 k2 k3 k5 "ValueError.__new__") ∧ refsVE bm = true
  sa : findIn K (.ref C) "__setattr__" = some (some (.builtin "object.__setattr__"))
  ga : findIn K (.ref C) "__getattribute__" = some (some (.builtin "BaseException.__getattribute__"))
  gg : findIn K (.ref C) "__getattr__" = some none
  noF : ∀ f ∈ fs, findIn K (.ref C) f = some none
  iC : findIn K (.ref C) "__init__" = some (some (.ref fI))
  tC : typeIn K (.ref fI) = some (.type "function")
  kC : keepIn K (.ref C) = true
  exC : subIn K (.ref C) (.type "BaseException") = some true
  veC : subIn K (.ref C) (.type "ValueError") = some true
  tyC : typeIn K (.ref C) = some (.type "type")
  hdC : hasDictIn K C = true
  su : nsIn K mainGlobals "super" = some none
  st : nsIn K cStatics "thirdparty.any" = some none
  hm : ks_superIn K C C "__init__" = some (some (.builtin "ValueError.__init__"))
  hsub : mroIn K C (.ref C) = some true
  htop : (prog.main.scope.names.lookup ("super" : Str)).isSome = false
  fn : ∃ (oc : Value) (od : Option Addr) (osl : Array (Option Value)) (params : Arguments) (scope : Scope) (kV doc pm ct : Value) (an : Option Addr) (cda cc : Addr) (p0 p1 p2 p3 p4 pj : Pos) (v1 v2 : Expr) (vr : List Expr) (ps : List (Str × Pos × Pos × Pos × Pos)) (pa : Pos) (prs : List Arg),
    K.lookup fI = some ⟨oc, od, .func (ksFn "__init__" (x ++ ".__init__") params (initBody p0 p1 p2 p3 p4 pj v1 v2 vr ps) scope .none kV doc pm an (.ref cda) ct cc), osl⟩ ∧ codeIn K (.ref cda) (x ++ ".__init__") = true ∧
    (∃ (ccl : Value) (cdd : Option Addr) (vs : Array Value) (ccs : Array (Option Value)) (file : Str) (tf : Tok), K.lookup cda = some ⟨ccl, cdd, .fields vs, ccs⟩ ∧ vs[2]? = some (.str file tf) ∧ ((prog.main.file : Str) == file) = true) ∧
    (∃ (cl : Value) (cld : Option Addr) (csl : Array (Option Value)), K.lookup cc = some ⟨cl, cld, .cell (some (.ref C)), csl⟩) ∧
    params = { posonlyargs := [], args := { arg := "self", annotation := none, pos := pa } :: prs, vararg := none, kwonlyargs := [], kw_defaults := [], kwarg := none, defaults := [] } ∧ prs.map (·.arg) = fs ∧
    ps.map (·.1) = fs ∧ (∀ e ∈ v1 :: v2 :: vr, Part e) ∧ (v1 :: v2 :: vr).length ≤ 10 ∧ (∀ f p q, (.FormattedValue (.Name f p) (-1) none q : Expr) ∈ v1 :: v2 :: vr → f ∈ fs) ∧
    (∀ f ∈ fs, scope.names.lookup f = some .local ∧ (f == ("__debug__" : Str)) = false ∧ f ≠ "self") ∧ fs.Nodup ∧ fs ≠ [] ∧ fs.length ≤ 5 ∧ scope.names.lookup ("self" : Str) = some .local ∧ scope.names.lookup ("super" : Str) = some .globalImplicit ∧
    scope.names.lookup ("__class__" : Str) = some .free ∧ (∀ y ∈ scope.names, y.2 ≠ .cell) ∧ scope.kind = .function ∧ scope.isCoroutine = false ∧ scope.isGenerator = false ∧
    (∀ us : List Value, us.length = fs.length + 1 → bindArgs (ksFn "__init__" (x ++ ".__init__") params (initBody p0 p1 p2 p3 p4 pj v1 v2 vr ps) scope .none kV doc pm an (.ref cda) ct cc) ⟨us, []⟩ = pure (((("self" : Str) :: fs)).zip us)) ∧
    ∃ pl : Env → Sem Bool, ∀ env : Env, eval (.Call (.Attribute (.Call (.Name "super" p0) [] [] p1) "__init__" p2) [.JoinedStr (v1 :: v2 :: vr) pj] [] p3) env = (do
      let ov ← attributeBase (.Call (.Name "super" p0) [] [] p1) "__init__" env (eval (.Call (.Name "super" p0) [] [] p1) env)
      standAt p2.atName
      let (f, first) ← holding [ov] (getMethod ov "__init__" (pl env))
      callWith p3 f first (backTo p3 (starEach [.JoinedStr (v1 :: v2 :: vr) pj] env)) [])
section
variable {prog : Program} {w : World} {A : Around} {E : Value → Shared → Prop} {h : Heap} {g : Array GenState} {d : Drawn} {t : Nat} {os : OsState}
variable {nm q : Str} {C N : Addr} {bs bm : List Value} {hdct : Bool} {sn : List Str} {sub : List Value} {ab : Bool} {col : Option Bool} {dd : Option Addr} {k0 k1 k2 k3 k5 : Option Value}
/-- super().__init__(..) called: the bound built-in -/
theorem call_mw {u e t0 : Addr} {rest : List Value} {Q : Value → Shared → Prop}
    (hC : h.get? C = some (excClassObj nm q C N bs bm hdct sn sub ab col dd k0 k1 k2 k3 k5 "ValueError.__new__")) (he : h.get? e = some (excO C t0)) (hu : h.get? u = some (kxs_mw "ValueError.__init__" e)) (hrest : rest.length ≤ sizeLine)
    (hq : ∀ h' t1, (∀ b o, b ≠ e → h.get? b = some o → h'.get? b = some o) → h'.get? e = some (excO C t1) → Q .none ⟨h', g, d, t, os⟩) :
    wpAny (model prog w) A (call (.ref u) rest) Q E ⟨h, g, d, t, os⟩ := by
  refine wpAny_call (codeAny_of_tree ?_)
  show wpAny _ A.in1 (callAny (.ref u) ⟨rest, []⟩) _ _ _
  simp only [callAny]
  refine wpAny_bind (wpAny_load hu ?_)
  simp only [kxs_mw, show (Value.type "method-wrapper" == Value.type "method" || Value.type "method-wrapper" == Value.type "builtin_function_or_method" || Value.type "method-wrapper" == Value.type "method-wrapper") = true by decide, if_true]
  refine W.KFB.if_so (by decide) ?_
  refine wpAny_bind (check_bound_init F.excBase_ValueError.toExcCallFacts hC he rfl ?_)
  refine wpAny_bind (wpAny_pure (wpAny_pure ?_))
  refine ⟨Code.quiet_builtin _ (by decide +kernel), codeAny_builtin F.excBase_ValueError.initEntry ?_⟩
  rw [Around.under_plainId F.excBase_ValueError.init.plain _]
  wp_walk
  refine hq _ h.objs.size (fun b o hb ho => ?_) ?_
  · rw [Heap.get?_update_other _ _ (Ne.symm hb)]
    exact Heap.get?_push_of_some _ ho
  · rw [Heap.get?_update_self _ (Heap.get?_push_of_some _ he) rfl]
    rfl
end
/-- an exception object's dict as stores go on -/
def acc (m : Str → Option Value) : List Str → (Str → Option Value) → Str → Option Value
  | [], m0 => m0
  | f :: r, m0 => acc m r fun y => if y = f then m f else m0 y
section
variable {prog : Program} {w : World} {A : Around} {E : Value → Shared → Prop} {env : Env} {m : Str → Option Value} {K : Frag} {mg : Str → Option Value} {x C fI : Addr} {xn : Str} {fs0 : List Str}
/-- the further stores: the exception has its dict -/
theorem stores_old (T : Txt prog K mg xn C fI fs0) (hk : env.scope.kind = .function) (hself : env.kindOf "self" = some .local) (hmS : m "self" = some (.ref x)) {dx t1 : Addr} (hdx : dx ≠ x) :
    ∀ (ps : List (Str × Pos × Pos × Pos × Pos)) (h : Heap) (m0 : Str → Option Value) (nl : List Str) (R : Shared → Prop) (g : Array GenState) (d : Drawn) (t : Nat) (os : OsState), (∀ p ∈ ps, p.1 ∈ fs0 ∧ env.kindOf p.1 = some .local ∧ (p.1 == ("__debug__" : Str)) = false ∧ ∃ v, m p.1 = some v) → K.In h → K.lookup dx = none → env.locals ≠ dx → h.Ns env.locals m →
      h.get? x = some { cls := .ref C, dict := some dx, data := .fields #[.ref t1, .none, .none, .none, .bool false, .none] } → h.Ns1 dx m0 → Within m0 nl → nl.length + ps.length ≤ 900 →
      (∀ h' tk, (∀ b o, b ≠ dx → h.get? b = some o → h'.get? b = some o) → h'.Ns1 dx (acc m (ps.map (·.1)) m0) → R ⟨h', g, d, tk, os⟩) →
      wpAny (model prog w) A (execs (sts ps) env) (fun f s' => f = .next ∧ R s') E ⟨h, g, d, t, os⟩
  | [], h, m0, nl, R, g, d, t, os, hp, KX, hKd, hL, hn, hx, hns, hw, hz, hq => wpAny_execs_nil ⟨rfl, hq h t (fun _ _ _ e => e) hns⟩
  | (f, q1, q2, q3, q4) :: ps, h, m0, nl, R, g, d, t, os, hp, KX, hKd, hL, hn, hx, hns, hw, hz, hq => by
    obtain ⟨hf0, hfl, hfd, v, hv⟩ := hp _ List.mem_cons_self
    have hfv : m f = some v := hv
    obtain ⟨nm, q, N, bs, bm, sn, sub, ab, col, dd, k0, k1, k2, k3, k5, hC, hbm⟩ := T.cls
    have hcl : clsIn K C = some { name := nm, bases := bs, mro := .ref C :: bm, ns := N, qualname := q, hasDict := true, slotNames := sn, subclasses := sub, abstract := ab, collection := col, hasDel := false } := by unfold clsIn; rw [hC] <;> rfl
    obtain ⟨oD, _, _, hoD, _, _⟩ := hns.count hw
    show wpAny _ _ (execs (.Assign [.Attribute (.Name "self" q1) f q2] (.Name f q3) q4 :: sts ps) env) _ _ _
    refine wpAny_execs_cons (plainObj_wpAny_Assign_Attribute (wpAny_Name (wpAny_loadName_local hk hfl hn hfv ?_) hfd))
    refine wpAny_Name (wpAny_loadName_local hk hself hn hmS ?_) (by decide)
    refine set_plain KX (ox := { cls := .ref C, dict := some dx, data := .fields #[.ref t1, .none, .none, .none, .bool false, .none] }) (od := some oD) ⟨hx, rfl, rfl, hoD⟩ T.sa ?_
    refine PySem.OEX.osa_old KX hx hns hw (by simp only [List.length_cons] at hz; omega) hcl (show refsVE (.ref C :: bm) = true from hbm) rfl (T.noF f hf0) (fun h' tk' k hn' => ?_)
    show wpAny _ _ (execs (sts ps) env) _ _ _
    have KX' : K.In h' := fun a o e => k a o (fun z => by rw [z, hKd] at e; cases e) (KX a o e)
    obtain ⟨oL, es, ep, hoL, rL⟩ := hn
    refine stores_old T hk hself hmS hdx ps h' _ (f :: nl) R g d tk' os (fun p hp' => hp p (List.mem_cons_of_mem _ hp')) KX' hKd hL ⟨oL, es, ep, k _ _ hL hoL, rL⟩ (k _ _ hdx.symm hx) hn' (Within.cons f v hw) (by simp only [List.length_cons] at hz ⊢; omega) (fun h'' tk kk hn'' => ?_)
    refine hq h'' tk (fun b o hb e => kk b o hb (k b o hb e)) ?_
    have e2 : acc m (List.map (·.1) ((f, q1, q2, q3, q4) :: ps)) m0 = acc m (List.map (·.1) ps) (fun y => if y = f then some v else m0 y) := by
      show acc m (List.map (·.1) ps) (fun y => if y = f then m f else m0 y) = _
      rw [hfv]
    rw [e2]
    exact hn''
end
end NvX
set_option Elab.async false
set_option linter.all false
set_option maxRecDepth 100000
set_option maxHeartbeats 4000000
namespace NvX
open PySem PySem.W PySem.Calls PyProof.Rows PySem.HandSPX
theorem acc_last (m : Str → Option Value) : ∀ (fs : List Str) (m0 : Str → Option Value) (y : Str), acc m fs m0 y = if y ∈ fs then m y else m0 y
  | [], m0, y => by simp [acc]
  | f :: r, m0, y => by
    rw [acc, acc_last m r]
    by_cases h : y ∈ r
    · simp [h]
    · by_cases e : y = f
      · simp [e]
      · simp [h, e]
/-- what X(v, ..)'s __init__ leaves -/
structure InitEnd (m : Str → Option Value) (fs : List Str) (h h' : Heap) (x C dx t1 : Addr) : Prop where
  keep : ∀ b o, h.get? b = some o → h'.get? b = some o
  obj : h'.get? x = some { cls := .ref C, dict := some dx, data := .fields #[.ref t1, .none, .none, .none, .bool false, .none] }
  dbig : h.objs.size ≤ dx
  dne : dx ≠ x
  ns : h'.Ns1 dx fun y => if y ∈ fs then m y else none
/-- a base heap below s: the module's names, the built-ins -/
structure Ground (K : Frag) (mg : Str → Option Value) (hb h : Heap) (x : Addr) : Prop where
  kin : K.In hb
  glob : hb.Ns mainGlobals mg
  blt : ∃ mb, hb.Ns builtinsNs mb ∧ ∀ x : Str, x ≠ "__name__" → mb x = bootBuiltins x
  keep : ∀ b o, hb.get? b = some o → h.get? b = some o
  size : hb.objs.size ≤ h.objs.size
  no : hb.get? x = none
  lim : h.NoLimit
section
variable {prog : Program} {w : World} {A : Around} {E : Value → Shared → Prop} {R : Result → Shared → Prop} {K : Frag} {mg : Str → Option Value} {x C fI t0 : Addr} {xn : Str} {fs : List Str} {hb : Heap} {s : Shared}
theorem lookup_zip_mem : ∀ {fs : List Str} {us : List Value} {f : Str}, fs.length = us.length → f ∈ fs → ∃ v, (fs.zip us).lookup f = some v ∧ v ∈ us
  | [], _, f, _, h => nomatch h
  | a :: fs, [], f, h, _ => by simp at h
  | a :: fs, u :: us, f, h, hm => by
    show ∃ v, (match f == a with | true => some u | false => (fs.zip us).lookup f) = some v ∧ v ∈ u :: us
    cases e : f == a with
    | true => exact ⟨u, rfl, List.mem_cons_self⟩
    | false =>
      have hm' : f ∈ fs := by
        rcases List.mem_cons.mp hm with z | z
        · rw [z] at e; simp at e
        · exact z
      obtain ⟨v, h1, h2⟩ := lookup_zip_mem (by simpa using h) hm'
      exact ⟨v, h1, List.mem_cons_of_mem _ h2⟩
theorem lookup_app_none {l r : List (Str × Value)} {y : Str} (h : l.lookup y = none) : (l ++ r).lookup y = r.lookup y := by
  induction l with
  | nil => rfl
  | cons p l ih =>
    obtain ⟨a, b⟩ := p
    have h' : (match y == a with | true => some b | false => l.lookup y) = none := h
    show (match y == a with | true => some b | false => (l ++ r).lookup y) = _
    cases e : y == a with
    | true => rw [e] at h'; cases h'
    | false => rw [e] at h'; exact ih h'
theorem lookup_app_some {l r : List (Str × Value)} {y : Str} {v : Value} (h : l.lookup y = some v) : (l ++ r).lookup y = some v := by
  induction l with
  | nil => cases h
  | cons p l ih =>
    obtain ⟨a, b⟩ := p
    have h' : (match y == a with | true => some b | false => l.lookup y) = some v := h
    show (match y == a with | true => some b | false => (l ++ r).lookup y) = _
    cases e : y == a with
    | true => rw [e] at h'; exact h'
    | false => rw [e] at h'; exact ih h'
theorem lookup_none_of : ∀ {l : List (Str × Value)} {y : Str}, ¬ y ∈ l.map (·.1) → l.lookup y = none
  | [], _, _ => rfl
  | (a, b) :: l, y, h => by
    show (match y == a with | true => some b | false => l.lookup y) = none
    have h1 : y ≠ a := fun z => h (by rw [z]; exact List.mem_cons_self)
    have e : (y == a) = false := by simpa using h1
    rw [e]
    exact lookup_none_of fun z => h (List.mem_cons_of_mem _ z)
theorem lookup_rev : ∀ {l : List (Str × Value)}, (l.map (·.1)).Nodup → ∀ y, l.reverse.lookup y = l.lookup y
  | [], _, _ => rfl
  | (a, b) :: l, h, y => by
    have h' : ¬ a ∈ l.map (·.1) ∧ (l.map (·.1)).Nodup := by simpa using h
    rw [List.reverse_cons]
    have ih := lookup_rev h'.2 y
    show _ = (match y == a with | true => some b | false => l.lookup y)
    cases e : y == a with
    | true =>
      have ey : y = a := by simpa using e
      have : l.reverse.lookup y = none := by rw [ih, ey]; exact lookup_none_of h'.1
      rw [lookup_app_none this]
      show (match y == a with | true => some b | false => none) = some b
      rw [e]
    | false =>
      cases q : l.reverse.lookup y with
      | some v => rw [lookup_app_some q, ← ih, q]
      | none =>
        rw [lookup_app_none q, ← ih, q]
        show (match y == a with | true => some b | false => none) = none
        rw [e]
theorem map_zip_fst : ∀ {fs : List Str} {us : List Value}, fs.length = us.length → (fs.zip us).map (·.1) = fs
  | [], _, _ => rfl
  | a :: fs, [], h => by simp at h
  | a :: fs, u :: us, h => by
    show a :: (fs.zip us).map (·.1) = a :: fs
    rw [map_zip_fst (by simpa using h)]
theorem init_run (T : Txt prog K mg xn C fI fs) (G : Ground K mg hb s.heap x) {us : List Value} (hx : s.heap.get? x = some (excO C t0)) (hl : us.length = fs.length) (hs : ∀ u ∈ us, Small u) (hroom : A.depth < recursionLimit)
    (hq : ∀ h' tk dx t1, InitEnd (fun y => (fs.zip us).lookup y) fs hb h' x C dx t1 → R (.ok (.ret .none)) { s with heap := h', toks := tk }) :
    codeAny (model prog w) A (.call (.ref fI) ⟨.ref x :: us, []⟩) R s := by
  obtain ⟨oc, od, osl, params, scope, kV, doc, pm, ct, an, cda, cc, p0, p1, p2, p3, p4, pj, v1, v2, vr, ps, pa, prs, hfn, hcd, ⟨ccl, cdd, cvs, ccs, file, tf, hcode, hvs, hfile⟩, ⟨cl, cld, csl, hcell⟩, hpar, hprs, hps, hparts, hplen, hpfs, hfs, hnd, hne, hf5, hkS, hkSu, hkC, hnoc, hkind, hco, hgen, hbd, pl, hcall⟩ := T.fn
  obtain ⟨nm, q, N, bs, bm, sn, sub, ab, col, dd, k0, k1, k2, k3, k5, hC, hbm⟩ := T.cls
  have hcl : clsIn K C = some { name := nm, bases := bs, mro := .ref C :: bm, ns := N, qualname := q, hasDict := true, slotNames := sn, subclasses := sub, abstract := ab, collection := col, hasDel := false } := by unfold clsIn; rw [hC] <;> rfl
  have Xs : K.In s.heap := G.kin.keeps G.keep
  have hKx : K.lookup x = none := by
    cases e : K.lookup x with
    | none => rfl
    | some o =>
      have z := G.kin _ _ e
      rw [G.no] at z
      cases z
  have hbind : BindsTo s (ksFn "__init__" (xn ++ ".__init__") params (initBody p0 p1 p2 p3 p4 pj v1 v2 vr ps) scope .none kV doc pm an (.ref cda) ct cc) ⟨.ref x :: us, []⟩ ((("self" : Str) :: fs).zip (.ref x :: us)) := .of_eq (hbd _ (by simp [hl]))
  refine ks_codeAny_call_defAt (binds := (("self" : Str) :: fs).zip (.ref x :: us)) (body := initBody p0 p1 p2 p3 p4 pj v1 v2 vr ps) hroom (Xs _ _ hfn) rfl G.lim (codeRec_of Xs hcd) rfl hbind hnoc ?_ (fun h₁ hns hk₁ => ?_) hco hgen hkind
  · intro y hy
    obtain ⟨h1, h2⟩ := List.of_mem_zip (a := y.1) (b := y.2) hy
    rcases List.mem_cons.mp h1 with e | e
    · rw [e]; exact hkS
    · exact (hfs _ e).1
  have hnoself : ¬ ("self" : Str) ∈ fs := fun z => (hfs _ z).2.2 rfl
  have hnodz : (((("self" : Str) :: fs).zip (Value.ref x :: us)).map (·.1)).Nodup := by
    rw [map_zip_fst (by simp [hl])]
    exact List.nodup_cons.mpr ⟨hnoself, hnd⟩
  have hlook : ∀ y, (((("self" : Str) :: fs).zip (Value.ref x :: us)).reverse.lookup y) = (match y == ("self" : Str) with | true => some (Value.ref x) | false => (fs.zip us).lookup y) := fun y => lookup_rev hnodz y
  have hmS : (fun y => (((("self" : Str) :: fs).zip (Value.ref x :: us)).reverse.lookup y)) "self" = some (.ref x) := by
    show (((("self" : Str) :: fs).zip (Value.ref x :: us)).reverse.lookup ("self" : Str)) = _
    rw [hlook]
    have e : (("self" : Str) == ("self" : Str)) = true := by simp
    rw [e]
  have hmF : ∀ f ∈ fs, (fun y => (((("self" : Str) :: fs).zip (Value.ref x :: us)).reverse.lookup y)) f = (fs.zip us).lookup f := fun f hf => by
    show (((("self" : Str) :: fs).zip (Value.ref x :: us)).reverse.lookup f) = _
    rw [hlook]
    have e : (f == ("self" : Str)) = false := by simpa using (hfs f hf).2.2
    rw [e]
  have hvF : ∀ f ∈ fs, ∃ v, (fs.zip us).lookup f = some v ∧ Small v := fun f hf => by
    obtain ⟨v, h1, h2⟩ := lookup_zip_mem hl.symm hf
    exact ⟨v, h1, hs v h2⟩
  obtain ⟨mm, hmm⟩ : ∃ mm : Str → Option Value, mm = fun y => (((("self" : Str) :: fs).zip (Value.ref x :: us)).reverse.lookup y) := ⟨_, rfl⟩
  rw [← hmm] at hmS hmF hns
  obtain ⟨L, hLe⟩ : ∃ L, L = s.heap.objs.size := ⟨_, rfl⟩
  rw [← hLe] at hns
  show PySem.wpAt (model prog w) (A.deeper (ksEnv (xn ++ ".__init__") scope s.heap.objs.size fI (.ref cda) cc)) (.func (initBody p0 p1 p2 p3 p4 pj v1 v2 vr ps) (ksEnv (xn ++ ".__init__") scope s.heap.objs.size fI (.ref cda) cc)) (execs (initBody p0 p1 p2 p3 p4 pj v1 v2 vr ps) (ksEnv (xn ++ ".__init__") scope s.heap.objs.size fI (.ref cda) cc)) _ _ _
  rw [← hLe]
  have kb : ∀ b o, hb.get? b = some o → h₁.get? b = some o := fun b o e => hk₁ b o (G.keep b o e)
  have F1 : Fr hb L h₁ mm := ⟨hns, kb, by rw [hLe]; exact G.size⟩
  have N1 : News hb L h₁ [(x, excO C t0)] := fun p hp => by
    rcases List.mem_singleton.mp hp with rfl
    exact ⟨hk₁ _ _ hx, by rw [hLe]; exact Nat.ne_of_lt (Heap.lt_size hx), G.no⟩
  have I1 : InstAt h₁ x (excO C t0) C none := ⟨hk₁ _ _ hx, rfl, rfl, trivial⟩
  have X1 : K.In h₁ := G.kin.keeps kb
  show PySem.wpAt _ _ _ (execs (.Expr (.Call (.Attribute (.Call (.Name "super" p0) [] [] p1) "__init__" p2) [.JoinedStr (v1 :: v2 :: vr) pj] [] p3) p4 :: sts ps) _) _ _ _
  refine ks_wpAt_execs_cons (ks_wpAt_Expr_any (ks_wpAt_MethodCall ?_ (hcall _)) (by simp [interactive, hkind]) rfl)
  have hCD : ∃ oD, h₁.get? C = some oD ∧ oD.data = .cls { name := nm, bases := bs, mro := .ref C :: bm, ns := N, qualname := q, hasDict := true, slotNames := sn, subclasses := sub, abstract := ab, collection := col, hasDel := false } := ⟨_, X1 _ _ hC, rfl⟩
  obtain ⟨oD, hD1, hD2⟩ := hCD
  obtain ⟨mb, hb1, hb2⟩ := G.blt
  refine ks_wpAt_super_base (env := ksEnv (xn ++ ".__init__") scope L fI (.ref cda) cc) hkSu hkC (by decide +kernel) rfl (X1 _ _ hfn) rfl (by show (params.posonlyargs ++ params.args).head? = _; rw [hpar]; rfl) rfl (X1 _ _ hcode) rfl hvs hfile T.htop ?_
  refine ks_loadName_global hkind hkSu (loadGlobal_builtin (env := ksEnv (xn ++ ".__init__") scope L fI (.ref cda) cc) (G.glob.keeps kb) (mg_none_of G.kin G.glob T.su) (hb1.keeps kb) ((hb2 _ (by decide +kernel)).trans (by decide +kernel)) ⟨rfl, ?_⟩)
  refine wpAny_loadName_free hkind hkC rfl ⟨_, X1 _ _ hcell, rfl⟩ ?_
  refine wpAny_loadName_local hkind hkS hns hmS ?_
  refine ks_wpAny_isType_cls hD1 hD2 ⟨rfl, ?_⟩
  obtain ⟨sh, sg, sd, stk, sos⟩ := s
  refine ks_wpAny_call_super hD1 hD2 I1.at_ I1.cls (fun c e => ?_) (looks_mroIn X1 T.hsub) (fun h2 e2 k2 => ?_)
  · cases e
  obtain ⟨F2, N2, l2⟩ := ks_newsPush (s := ⟨h₁, sg, sd, stk, sos⟩) F1 N1 rfl e2 k2
  refine kxs_method (s := ⟨h2, sg, sd, _, sos⟩) kxs_ValueError F2 G.kin N2 (List.mem_cons_self) (show InstAt h2 x (excO C t0) C none from ⟨k2 _ _ I1.at_, rfl, rfl, trivial⟩) T.st T.hm T.veC (by decide +kernel) (fun u h3 F3 N3 l3 => ?_)
  refine kxs_callWith1 (i := "ValueError.__init__") (x := x) N3 List.mem_cons_self ?_
  show wpAny _ _ (spliced ((false, eval (.JoinedStr (v1 :: v2 :: vr) pj) (ksEnv (xn ++ ".__init__") scope L fI (.ref cda) cc)) :: backTo p3 (starEach [] (ksEnv (xn ++ ".__init__") scope L fI (.ref cda) cc)))) _ _ _
  refine Calls.spliced_cons (wpAny_JoinedStr ?_)
  refine joins_ok (s := ⟨h3, sg, sd, 0, sos⟩) hkind F3.ns (v1 :: v2 :: vr) Str.empty _ _ hparts ?_ ?_ ?_
  · intro f pp qq hm
    have hf := hpfs f pp qq hm
    exact ⟨(hfs f hf).1, (hfs f hf).2.1, by rw [hmF f hf]; exact hvF f hf⟩
  · have : (Str.empty : Str).length = 0 := rfl
    omega
  intro out tk' hout
  refine ⟨hout, ?_⟩
  refine Calls.spliced_nil ⟨kxs_at N3 List.mem_cons_self, ?_⟩
  refine call_mw ((G.kin.keeps F3.keep) _ _ hC) (N3 (x, excO C t0) (by simp)).1 (N3 (u, kxs_mw "ValueError.__init__" x) (by simp)).1 (by simp [sizeLine_eq]) (fun h4 t1 k4 e4 => ?_)
  show PySem.wpAt _ _ _ (execs (sts ps) (ksEnv (xn ++ ".__init__") scope L fI (.ref cda) cc)) _ _ _
  refine wpAt_of_wpAny ?_
  obtain ⟨oL, es, ep, hoL, rL⟩ := F3.ns
  have hLx : L ≠ x := by rw [hLe]; exact Nat.ne_of_gt (Heap.lt_size hx)
  have hn4 : h4.Ns L mm := ⟨oL, es, ep, k4 _ _ hLx hoL, rL⟩
  have kb4 : ∀ b o, hb.get? b = some o → h4.get? b = some o := fun b o e => k4 b o (fun z => by rw [z, G.no] at e; cases e) (F3.keep b o e)
  have X4 : K.In h4 := G.kin.keeps kb4
  have sz4 : hb.objs.size ≤ h4.objs.size := Nat.le_trans F3.above (Nat.le_of_lt (Heap.lt_size (k4 _ _ hLx hoL)))
  cases ps with
  | nil => exact absurd hps.symm hne
  | cons p ps' =>
    obtain ⟨f, q1, q2, q3, q4⟩ := p
    have hpf : f :: ps'.map (·.1) = fs := hps
    have hfm : f ∈ fs := by rw [← hpf]; exact List.mem_cons_self
    obtain ⟨v, hv, hsv⟩ := hvF f hfm
    have hmf : mm f = some v := (hmF f hfm).trans hv
    show wpAny _ _ (execs (.Assign [.Attribute (.Name "self" q1) f q2] (.Name f q3) q4 :: sts ps') _) _ _ _
    refine wpAny_execs_cons (plainObj_wpAny_Assign_Attribute (wpAny_Name (wpAny_loadName_local hkind (hfs f hfm).1 hn4 hmf ?_) (hfs f hfm).2.1))
    refine wpAny_Name (wpAny_loadName_local hkind hkS hn4 hmS ?_) (by decide)
    refine set_plain X4 (ox := excO C t1) (od := none) ⟨e4, rfl, rfl, trivial⟩ T.sa ?_
    refine exc_osa X4 e4 hcl (show refsVE (.ref C :: bm) = true from hbm) rfl (T.noF f hfm) (fun h5 tk5 dx k5 dn dne hx5 hn5 => ?_)
    show wpAny _ _ (execs (sts ps') _) _ _ _
    have kb5 : ∀ b o, hb.get? b = some o → h5.get? b = some o := fun b o e => k5 b o (fun z => by rw [z, G.no] at e; cases e) (kb4 b o e)
    have nbd : ∀ b o, hb.get? b = some o → b ≠ dx := fun b o e => Nat.ne_of_lt (Nat.lt_of_lt_of_le (Heap.lt_size e) (Nat.le_trans sz4 dn))
    have hKd : K.lookup dx = none := by
      cases e : K.lookup dx with
      | none => rfl
      | some o => exact absurd rfl (nbd dx o (G.kin _ _ e))
    have hLd : L ≠ dx := Nat.ne_of_lt (Nat.lt_of_lt_of_le (Heap.lt_size (k4 _ _ hLx hoL)) dn)
    have hlf : ps'.length + 1 = fs.length := by rw [← hpf]; simp
    refine wpAny_mono (stores_old (env := ksEnv (xn ++ ".__init__") scope L fI (.ref cda) cc) T hkind hkS hmS dne ps' h5 (fun y => if y = f then some v else none) [f] (fun s' => R (.ok (.ret .none)) s') sg sd tk5 sos (fun p hp => ?_) (G.kin.keeps kb5) hKd hLd ⟨oL, es, ep, k5 _ _ hLx (k4 _ _ hLx hoL), rL⟩ hx5 hn5 (fun y hy => ?_) (by simp only [List.length_cons, List.length_nil]; omega) (fun h6 tk6 k6 hn6 => ?_)) (fun fl s' z => by obtain ⟨e, r⟩ := z; subst e; exact r) fun _ _ z => z
    · have hpm : p.1 ∈ fs := by rw [← hpf]; exact List.mem_cons_of_mem _ (List.mem_map_of_mem hp)
      obtain ⟨v', hv', _⟩ := hvF _ hpm
      exact ⟨hpm, (hfs _ hpm).1, (hfs _ hpm).2.1, v', (hmF _ hpm).trans hv'⟩
    · by_cases e : y = f
      · rw [e]; exact List.mem_singleton.mpr rfl
      · exact absurd (if_neg e) hy
    · refine hq h6 tk6 dx t1 ⟨fun b o e => k6 b o (nbd b o e) (kb5 b o e), k6 _ _ dne.symm hx5, Nat.le_trans sz4 dn, dne, ?_⟩
      have ee : acc mm (List.map (·.1) ps') (fun y => if y = f then some v else none) = fun y => if y ∈ fs then (fs.zip us).lookup y else none := by
        funext y
        rw [acc_last]
        by_cases h1 : y ∈ List.map (·.1) ps'
        · have h2 : y ∈ fs := by rw [← hpf]; exact List.mem_cons_of_mem _ h1
          rw [if_pos h1, if_pos h2, hmF y h2]
        · rw [if_neg h1]
          by_cases h3 : y = f
          · rw [if_pos h3, h3, if_pos hfm, hv]
          · have h2 : ¬ y ∈ fs := by
              rw [← hpf]
              intro z
              rcases List.mem_cons.mp z with z | z
              · exact h3 z
              · exact h1 z
            rw [if_neg h3, if_neg h2]
      rw [← ee]
      exact hn6
end
end NvX
set_option Elab.async false
set_option linter.all false
set_option maxRecDepth 100000
set_option maxHeartbeats 4000000
namespace NvX
open PySem PySem.W PySem.Calls PyProof.Rows PySem.HandSPX
/-- a made exception -/
structure Made (m : Str → Option Value) (fs : List Str) (h h' : Heap) (e C d : Addr) : Prop where
  keep : ∀ b o, h.get? b = some o → h'.get? b = some o
  new : h.objs.size ≤ e
  obj : ∃ oe vs, h'.get? e = some oe ∧ oe.cls = .ref C ∧ oe.dict = some d ∧ oe.data = .fields vs ∧ vs[1]? = some .none
  dbig : h.objs.size ≤ d
  dne : d ≠ e
  ns : h'.Ns1 d fun y => if y ∈ fs then m y else none
section
variable {prog : Program} {w : World} {A : Around} {E : Value → Shared → Prop} {R : Result → Shared → Prop} {K : Frag} {mg : Str → Option Value} {C fI : Addr} {xn : Str} {fs : List Str} {s : Shared}
theorem made (T : Txt prog K mg xn C fI fs) (X : K.In s.heap) (hg : s.heap.Ns mainGlobals mg) (hb : ∃ mb, s.heap.Ns builtinsNs mb ∧ ∀ x : Str, x ≠ "__name__" → mb x = bootBuiltins x) (hlim : s.heap.NoLimit)
    {us : List Value} (hl : us.length = fs.length) (hs : ∀ u ∈ us, Small u) (hroom : A.depth + 1 < recursionLimit)
    (hq : ∀ h' tk e d, Made (fun y => (fs.zip us).lookup y) fs s.heap h' e C d → R (.ok (.ret (.ref e))) { s with heap := h', toks := tk }) :
    codeAny (model prog w) A (.call (.ref C) ⟨us, []⟩) R s := by
  obtain ⟨nm, q, N, bs, bm, sn, sub, ab, col, dd, k0, k1, k2, k3, k5, hC, hbm⟩ := T.cls
  have hf5 : fs.length ≤ 5 := by
    obtain ⟨oc, od, osl, params, scope, kV, doc, pm, ct, an, cda, cc, p0, p1, p2, p3, p4, pj, v1, v2, vr, ps, pa, prs, hfn, hcd, _, _, hpar, hprs, hps, hparts, hplen, hpfs, hfs, hnd, hne, hf5, _⟩ := T.fn
    exact hf5
  obtain ⟨hp, g, dr, tk, os⟩ := s
  have k : ∀ b o, hp.get? b = some o → ((hp.push (kdv_tup us)).push (excO C hp.objs.size)).get? b = some o := fun b o e => Heap.get?_push_of_some _ (Heap.get?_push_of_some _ e)
  have hget : ((hp.push (kdv_tup us)).push (excO C hp.objs.size)).get? (hp.objs.size + 1) = some (excO C hp.objs.size) := by heap_get
  refine call_own F.excBase_ValueError (fun X => refsVE_contains X bm hbm) (X _ _ hC) (looks_findIn X T.iC) (fun self => bind_fn X self T.tC) (by rw [sizeLine_eq]; omega) ?_
  have G : Ground K mg hp ((hp.push (kdv_tup us)).push (excO C hp.objs.size)) (hp.objs.size + 1) :=
    ⟨X, hg, hb, k, by rw [Heap.size_push, Heap.size_push]; omega, Heap.get?_none_of_le (Nat.le_succ _), hlim.keeps k⟩
  refine init_run (s := ⟨(hp.push (kdv_tup us)).push (excO C hp.objs.size), g, dr, tk, os⟩) T G hget hl hs ?_ fun h' tk' dx t1 M => ?_
  · show A.depth + 1 < recursionLimit
    exact hroom
  · exact ⟨rfl, hq h' tk' (hp.objs.size + 1) dx ⟨M.keep, Nat.le_succ _, ⟨_, _, M.obj, rfl, rfl, rfl, rfl⟩, M.dbig, M.dne, M.ns⟩⟩
end
end NvX
namespace L2
open PySem PySem.Spec PyProof.Rows
def SmallV (v : V) : Prop := (∃ x : Str, v = .str x ∧ x.length ≤ 2000) ∨ ∃ i : Int, v = .int i ∧ i.natAbs.log2 < 1920
theorem SmallV.rel {v : V} {u : Value} (h : SmallV v) (r : RelV v u) : NvX.Small u := by
  rcases h with ⟨x, rfl, h⟩ | ⟨i, rfl, h⟩
  · obtain ⟨t, rfl⟩ := r
    exact .inl ⟨x, t, rfl, h⟩
  · obtain ⟨t, rfl⟩ := r
    exact .inr ⟨i, t, rfl, h⟩
theorem small_all : ∀ {vs : List V} {us : List Value}, Vals vs us → (∀ v ∈ vs, SmallV v) → ∀ u ∈ us, NvX.Small u
  | _, _, .nil, _, u, h => nomatch h
  | _, _, .cons r t, hs, u, h => by
    rcases List.mem_cons.mp h with e | h
    · rw [e]; exact (hs _ List.mem_cons_self).rel r
    · exact small_all t (fun v hv => hs v (List.mem_cons_of_mem _ hv)) u h
theorem relO_zip : ∀ {fs : List Str} {vs : List V} {us : List Value}, Vals vs us → fs.length = vs.length → ∀ f, RelO ((fs.zip vs).lookup f) (if f ∈ fs then (fs.zip us).lookup f else none)
  | [], _, _, _, _, f => by simp [RelO]
  | a :: fs, _, _, .nil, h, f => by simp at h
  | a :: fs, v :: vs, u :: us, .cons r t, h, f => by
    have ih := relO_zip (fs := fs) t (by simpa using h) f
    show RelO (match f == a with | true => some v | false => (fs.zip vs).lookup f) (if f ∈ a :: fs then (match f == a with | true => some u | false => (fs.zip us).lookup f) else none)
    cases e : f == a with
    | true =>
      have ef : f = a := by simpa using e
      rw [if_pos (by rw [ef]; exact List.mem_cons_self)]
      exact r
    | false =>
      have ef : f ≠ a := by simpa using e
      by_cases hm : f ∈ fs
      · rw [if_pos (List.mem_cons_of_mem _ hm)]
        rw [if_pos hm] at ih
        exact ih
      · rw [if_neg (by intro z; rcases List.mem_cons.mp z with z | z; exact ef z; exact hm z)]
        rw [if_neg hm] at ih
        exact ih
section
variable {X : Cx} {C fI : Addr} {xn : Str} {fs : List Str}
/-- X(e, ..) -/
def tMkX (C : Addr) (fs : List Str) (ta : TA) : St → Hp → XK → Prop := fun σ H Q => ta σ H fun vs H1 => vs.length = fs.length ∧ (∀ v ∈ vs, SmallV v) ∧ ∀ d, H1 d = none → Q (.ref C) (some d) (upd H1 d (.xd (fs.zip vs)))
theorem pmk_x {e : Expr} {es : List Expr} {ta : TA} {p pos : Pos} {k : Nat} (T : NvX.Txt X.prog X.K X.mg xn C fI fs) (hr : Room k X.A) (ha : PA X (e :: es) ta) (hg : Gl X xn := by rfl)
    (hdb : (xn == ("__debug__" : Str)) = false := by decide)
    (he : starEach (e :: es) X.env = (false, eval e X.env) :: starEach es X.env := by rfl) (hpl : (backTo pos (starEach es X.env)).any (·.1) = false := by rfl) :
    PMk X (.Call (.Name xn p) (e :: es) [] pos) (tMkX C fs ta) := by
  intro pins s σ H Q I h
  refine wpAny_Call_Name_kw (ld_glob I hg T.gC ?_ hdb)
  refine PySem.W.callWith_K (h₀ := X.base) I.ok.mod.kin T.kC (thn (ha.run pos pins s σ H _ I h) fun us s1 hh => ?_) he hpl
  obtain ⟨vs, H1, I1, r1, hl, hs, q1⟩ := hh
  refine ⟨I1.kIn, ?_⟩
  show wpAny _ _ (call (.ref C) us) _ _ _
  have hlim := I1.nolimit
  have hgl := I1.mod.glob.keeps I1.bk
  obtain ⟨mb, hb1, hb2⟩ := I1.mod.blt
  have hbl := hb1.keeps I1.bk
  have hlu : us.length = fs.length := by rw [← Paired.length r1]; exact hl
  obtain ⟨hp, g, dr, tk, os⟩ := s1
  refine wpAny_call (NvX.made T I1.kIn hgl ⟨mb, hbl, hb2⟩ hlim hlu (small_all r1 hs) (by have := hr.dp; omega) fun h' tk' e d M => ?_)
  show MkP X pins σ Q (.ref e) ⟨h', g, dr, tk', os⟩
  obtain ⟨oe, fv, hoe, hc, hd, hdat, h1⟩ := M.obj
  have hns := M.ns
  obtain ⟨G', g1, g2⟩ := restrict h' fun b => decide (b ≠ e)
  have gk : ∀ b, b ≠ e → G'.get? b = h'.get? b := fun b hb => g1 b (decide_eq_true hb)
  have ge : G'.get? e = none := g2 e (by simp)
  have old : ∀ b o, hp.get? b = some o → G'.get? b = some o := fun b o q => (gk b (Nat.ne_of_lt (Nat.lt_of_lt_of_le (Heap.lt_size q) M.new))).trans (M.keep b o q)
  have ob : ObjOk X.prog X.w (upd H1 d (.xd (fs.zip vs))) G' d (.xd (fs.zip vs)) :=
    ⟨_, hns.at (fun o q => (gk d M.dne).trans q), fun f => relO_zip r1 hl.symm f⟩
  have J : Inv X pins σ (upd H1 d (.xd (fs.zip vs))) ⟨G', g, dr, tk', os⟩ := I1.laid (t' := tk') old M.dbig ob
  refine ⟨e, oe, fv, ⟨G', g, dr, tk', os⟩, _, .ref C, some d, rfl, J, fun b o q => ?_, ge, hoe, ⟨hc, hd⟩, hdat, h1, ?_, rfl, I1.bare, raises_own T.exC T.tyC, q1 d (I1.hok.fresh M.dbig)⟩
  · by_cases hb : b = e
    · have q' : G'.get? b = some o := q
      rw [hb, ge] at q'; cases q'
    · exact (gk b hb).symm.trans q
  · rw [upd_ne (Ne.symm M.dne)]
    exact I1.hok.fresh M.new
/-- raise X(e, ..) -/
def tRaiseX (C : Addr) (fs : List Str) (W : WX) (ta : TA) : TS := fun _ σ H => tMkX C fs ta σ H fun cls d H' => W cls d σ H'
theorem ps_raiseX {e : Expr} {es : List Expr} {ta : TA} {W : WX} {p pos pos2 : Pos} {k : Nat} (hc : X.calm = true) (T : NvX.Txt X.prog X.K X.mg xn C fI fs) (hr : Room k X.A) (tk : Takes X W) (ha : PA X (e :: es) ta) (hg : Gl X xn := by rfl)
    (hdb : (xn == ("__debug__" : Str)) = false := by decide)
    (he : starEach (e :: es) X.env = (false, eval e X.env) :: starEach es X.env := by rfl) (hpl : (backTo pos (starEach es X.env)).any (·.1) = false := by rfl) :
    PS X (.Raise (some (.Call (.Name xn p) (e :: es) [] pos)) none pos2) (tRaiseX C fs W ta) := ps_raise hc tk (pmk_x T hr ha hg hdb he hpl)
end
end L2
set_option Elab.async false
set_option linter.all false
set_option maxRecDepth 100000
set_option maxHeartbeats 4000000
/-! try .. except X as n, the exception kept behind the suite: it is tracked from the catch on. isinstance and fields of such. -/
namespace L2
open PySem PySem.Spec PyProof.Rows
/-- a caught exception of the class cls, its own dict at d -/
def ExT (cls : Value) (d : Option Addr) (a : Addr) : HO := .ext fun h => ∃ (oe : Obj) (vs : Array Value), h.get? a = some oe ∧ Zc cls d oe ∧ oe.data = .fields vs
theorem exT_at {P : Program} {w : World} {H : Hp} {h : Heap} {a b : Addr} {cls : Value} {d : Option Addr} (hok : HOk P w H h) (e : H b = some (ExT cls d a)) : ∃ (oe : Obj) (vs : Array Value), h.get? a = some oe ∧ Zc cls d oe ∧ oe.data = .fields vs := by
  obtain ⟨z, _, _⟩ := hok b _ e
  exact z
section
variable {X : Cx} {pins : List (Addr × Obj)} {σ : St} {H : Hp} {s : Shared}
theorem Inv.track {a : Addr} {oe : Obj} {vs : Array Value} {cls : Value} {d : Option Addr} (I : Inv X pins σ H s) (ha : s.heap.get? a = some oe) (hz : Zc cls d oe) (hd : oe.data = .fields vs) (na : H a = none)
    (n0 : X.s_0.heap.get? a = none) (nL : a ≠ X.env.locals) (nC : ∀ x c, X.env.cells.lookup x = some c → c ≠ a) (nP : ∀ p ∈ X.pn ++ pins, p.1 ≠ a) : Inv X pins σ (upd H a (ExT cls d a)) s := by
  have ne : ∀ {b : Addr} {u : HO}, H b = some u → b ≠ a := fun {b u} q z => by rw [z, na] at q; cases q
  refine ⟨I.ok, I.os, I.bare, ⟨I.base.keep, I.base.slot, fun b o q n hx => ?_, I.base.there, fun b xs q => ?_, fun b o u q => ?_, fun b ps q => ?_⟩, I.loc, I.cell, ?_, fun x c e => ?_, fun p hp => ?_, fun b u e => ?_, I.len⟩
  · rw [upd_ne (fun z => by rw [z, n0] at q; cases q)]
    exact I.base.free b o q n hx
  · have q' := I.base.tups b xs q
    rw [upd_ne (ne q')]; exact q'
  · have q' := I.base.frzs b o u q
    rw [upd_ne (ne q')]; exact q'
  · obtain ⟨m, q'⟩ := I.base.tbls b ps q
    exact ⟨m, by rw [upd_ne (ne q')]; exact q'⟩
  · rw [upd_ne nL.symm]; exact I.free
  · rw [upd_ne (nC x c e)]; exact I.freeC x c e
  · obtain ⟨h1, h2, h3, h4, h5⟩ := I.pin p hp
    exact ⟨h1, by rw [upd_ne (nP p hp)]; exact h2, h3, h4, h5⟩
  · by_cases hb : b = a
    · subst hb
      rw [upd_same] at e
      cases e
      exact ⟨⟨oe, vs, ha, hz, hd⟩, ⟨oe, ha⟩, fun h1 h2 ⟨o, v, q, r⟩ k => ⟨o, v, k o q, r⟩⟩
    · rw [upd_ne hb] at e
      exact (I.hok b u e).stay (fun c v _ q => q) (fun c q => by rw [upd_ne (ne q)]; exact q) fun c xs q => by rw [upd_ne (ne q)]; exact q
theorem Inv.suiteT (I : Inv X pins σ H s) (a : Addr) : Inv (X.suite a (X.pn ++ pins)) [] σ H s :=
  ⟨I.ok.suite _ _, I.os, I.bare, I.base, I.loc, I.cell, I.free, I.freeC, fun p hp => I.pin p (by rw [List.append_nil] at hp; exact hp), I.hok, I.len⟩
theorem Inv.unsuiteT {a : Addr} {pn' : List (Addr × Obj)} (I : Inv (X.suite a (X.pn ++ pins)) pn' σ H s) (ok : X.Ok) : Inv X pins σ H s :=
  ⟨ok, I.os, I.bare, I.base, I.loc, I.cell, I.free, I.freeC, fun p hp => I.pin p (List.mem_append_left _ hp), I.hok, I.len⟩
end
/-- what the clause 'except x as n' wishes of an exception of the body: slot i is n's; the exception is tracked -/
def wAx (K : PySem.W.Frag) (c : Value) (i : Nat) (ts : TS) (Wout : WX) (D : Ends) : WX := fun cls d σ H =>
  ∃ b, PySem.W.exmOne K cls c = some b ∧ (b = true → ∀ a, H a = none → ts { nx := fun σ' H' => D.nx (σ'.set i none) H', rt := D.rt, bk := fun σ' H' => D.bk (σ'.set i none) H', ct := fun σ' H' => D.ct (σ'.set i none) H' } (σ.set i (some (.ref a))) (upd H a (ExT cls d a))) ∧
    (b = false → Wout cls d σ H)
section
variable {X : Cx} {x n : Str} {c : Value} {i : Nat} {body suite : List Stmt} {b₀ : Stmt} {np pos pos' : Pos} {tb : WX → TS} {ts : TS} {Wout : WX}
theorem ps_try_ax (hs : X.stack = X.env :: X.outer) (hf : X.env.frame = some X.env.locals) (hex : X.ex = []) (hN : X.N.Nodup) (hi : X.N[i]? = some n) (hln : X.env.kindOf n = some .local) (hc : Names X x c) (tk : Takes X Wout)
    (hb : ∀ (W : WX) (pn : List (Addr × Obj)) (xe : Value → Shared → Prop), Takes (X.tr pn xe) W → PassesOwn (model X.prog X.w) X.A X.env xe → PSs (X.tr pn xe) body (tb W))
    (hsu : ∀ (a : Addr) (pn : List (Addr × Obj)), PSs (X.suite a pn) (b₀ :: suite) ts) :
    PS X (.Try body [.ExceptHandler (some (.Name x np)) (some n) (b₀ :: suite) pos'] [] [] pos) (fun D σ H => tb (wAx X.K c i ts Wout D) D σ H) := by
  refine ⟨fun pins s σ H D I h => ?_⟩
  have ok := I.ok
  have hfr : X.A.frames = some (X.env :: X.outer) := by rw [ok.frames, hs]
  have hloc : Loc X.env.scope n := .inl hln
  refine wpAny_Try_except ?_
  refine wpAny_mono ((hb (wAx X.K c i ts Wout D) (X.pn ++ pins) (fun e s₁ => wpAny (model X.prog X.w) X.A (noteFrame e X.env) (fun _ s₂ => wpAny (model X.prog X.w) X.A (setFlight e none) (fun _ s₃ =>
    wpAny (model X.prog X.w) X.A (handleBy e X.env [.ExceptHandler (some (.Name x np)) (some n) (b₀ :: suite) pos']) (SP X pins D) X.xe s₃) X.xe s₂) X.xe s₁) (fun u s' xx => ?_) PassesOwn.looking).run [] s σ H D (I.toTry _) h) (fun f s1 hsp => ?_) (fun e s1 he => he)
  · obtain ⟨a, B, sI, pins', σ', H', cls, d, rfl, J', nb, up, sky, na, os, ag, b, hb1, hyes, hno⟩ := xx
    have J : Inv X pins σ' H' sI := J'.ofTry ok
    have sky' : Sky B (X.env :: X.outer) a (Zc cls d) X.env.locals s'.heap := by rw [← hs]; exact sky
    show wpAny (model X.prog X.w) X.A (noteFrame (.ref a) X.env) _ _ _
    refine Sky.land Zc.steady hfr hf sky' fun h3 fl3 up3 => ?_
    have J3 : Inv X pins σ' H' { s' with heap := h3 } := J.landed nb fl3.1 (up.trans up3) os ag
    obtain ⟨oe3, vs3, he3, hz3, hd3⟩ := fl3.there
    have notFr : ∀ {h : Heap} {o : Obj} {vs : Array Value}, h.FunFrames B (X.env :: X.outer) → h.get? a = some o → o.data = .fields vs → a ∉ frs (X.env :: X.outer) := fun {h o vs} ff e dd hm => by
      obtain ⟨_, o', e', hnf⟩ := ff.mem hm
      rw [e] at e'; cases e'
      exact hnf _ dd
    have nfr := notFr fl3.2.2.1 he3 hd3
    have nL : a ≠ X.env.locals := fun z => nfr (List.mem_filterMap.mpr ⟨X.env, List.mem_cons_self, by rw [hf, z]⟩)
    have nF : a ∉ X.fs := fun hm => by
      obtain ⟨e, he, q⟩ := List.mem_filterMap.mp hm
      exact nfr (List.mem_filterMap.mpr ⟨e, List.mem_cons_of_mem _ he, q⟩)
    have nI : sI.heap.get? a = none := by
      cases q : sI.heap.get? a with
      | none => rfl
      | some o =>
        have z := nb a o q (by rw [hs]; exact nfr)
        rw [fl3.2.1] at z; cases z
    have n0 : X.s_0.heap.get? a = none := by
      cases q : X.s_0.heap.get? a with
      | none => rfl
      | some o =>
        obtain ⟨o', z⟩ := J.base.there a o q (by rw [hex]; exact fun z => nomatch z)
        rw [nI] at z; cases z
    have nC : ∀ x c, X.env.cells.lookup x = some c → c ≠ a := fun x c e z => by
      obtain ⟨v, o, ho, _⟩ := J.cell x c e
      rw [z, nI] at ho; cases ho
    have nP : ∀ p ∈ X.pn ++ pins, p.1 ≠ a := fun p hp z => by
      obtain ⟨h1, _⟩ := J.pin p hp
      rw [z, nI] at h1; cases h1
    have S3 := J3.suite he3 hd3 na nL nF
    refine wpAny_handleBy_cons (codeAny_handlers_test ?_) (by intro q; cases q)
    have LT : PySem.W.Looks (model X.prog X.w) h3 (typeOf (.ref a)) cls := fun A Q E s k q => wpAny_typeOf_ref (k _ _ he3) (by rw [hz3.1]; exact q)
    have LM := PySem.W.exm_one (M := model X.prog X.w) (J3.kIn) LT hb1
    have test : ∀ {Q : Value → Shared → Prop} {E : Value → Shared → Prop}, Q c { s' with heap := h3 } → wpAny (model X.prog X.w) (X.A.mark (some (.ref a))) (eval (.Name x np) X.env) Q E { s' with heap := h3 } := fun {Q E} q => by
      obtain ⟨hg, hdbg, hm | ⟨hm, hv, hnn⟩⟩ := hc
      · exact ld_glob (X := X.suite a ((a, oe3) :: (X.pn ++ pins))) S3 hg hm q hdbg
      · exact ld_blt (X := X.suite a ((a, oe3) :: (X.pn ++ pins))) S3 hg hm hv q hnn hdbg
    refine test (LM.here ?_)
    cases b with
    | true =>
      refine codeAny_handlers_suite_as ?_
      refine HandSPX.lands_againZ fl3 fun h4 fl4 up4 => ?_
      have J4 : Inv X pins σ' H' { s' with heap := h4 } := J.landed nb fl4.1 ((up.trans up3).trans up4) os ag
      obtain ⟨oe4, vs4, he4, hz4, hd4⟩ := fl4.there
      have T4 := J4.track he4 hz4 hd4 na n0 nL nC nP
      have S4 := T4.suiteT a
      refine store_ok (X := X.suite a (X.pn ++ pins)) (v := .ref a) S4 hN hi hloc rfl (fun s5 S5 => ?_) (.inr hln)
      refine wpAny_mono ((hsu a (X.pn ++ pins)).run [] s5 _ _ _ S5 (hyes rfl a na)) (fun f s6 hsp => ?_) (fun _ _ z => False.elim z)
      have end_ : ∀ {σ6 : St} {H6 : Hp} {Q : Shared → Prop}, Inv (X.suite a (X.pn ++ pins)) [] σ6 H6 s6 → (∀ s7, Inv X pins (σ6.set i none) H6 s7 → Q s7) →
          wpAny (model X.prog X.w) X.A (do bindName X.env n .none; unbindBehindTheSuite X.env n pos') (fun _ s7 => Q s7) X.xe s6 := fun {σ6 H6 Q} S6 hq => gone_ok (S6.unsuiteT ok) hN hi hln hq
      cases f with
      | next =>
        obtain ⟨σ6, H6, S6, q6⟩ := hsp
        exact end_ S6 fun s7 J7 => ⟨_, _, J7, q6⟩
      | brk =>
        obtain ⟨σ6, H6, S6, q6⟩ := hsp
        exact end_ S6 fun s7 J7 => ⟨_, _, J7, q6⟩
      | cont =>
        obtain ⟨σ6, H6, S6, q6⟩ := hsp
        exact end_ S6 fun s7 J7 => ⟨_, _, J7, q6⟩
      | ret u =>
        obtain ⟨v6, σ6, H6, S6, r6, q6⟩ := hsp
        exact end_ S6 fun s7 J7 => ⟨_, _, _, J7, r6, q6⟩
    | false =>
      show wpAny _ X.A (handleBy (.ref a) X.env []) _ _ _
      refine wpAny_handleBy_nil ?_
      obtain ⟨k1, k2, k3, oe, vs, T, oT, ts', he, hz, hd, h1, hr⟩ := id fl3
      unfold PySem.passOn
      refine wpAny_bind (wpAny_field he hd h1 ?_)
      rw [if_neg (show ¬ ((Value.ref T == Value.none) = true) from by simp)]
      have fin : wpAny (model X.prog X.w) X.A (setFlight (.ref a) X.env.frame) (fun _ s4 => wpAny (model X.prog X.w) X.A (throw (.ref a) : Sem Flow) (SP X pins D) X.xe s4) X.xe { s' with heap := h3 } := by
        rw [hf]
        refine HandSPX.setFlight_upZ fl3 fun h4 hh4 up4 => wpAny_throw (tk _ _ ?_)
        exact ⟨a, B, sI, pins, σ', H', cls, d, rfl, J, nb, (up.trans up3).trans up4, .inr (.inr (by rw [hs]; exact hh4)), na, os, ag, hno rfl⟩
      first
        | exact wpAny_bind (wpAny_pure (wpAny_bind fin))
        | exact wpAny_bind fin
  · cases f with
    | next =>
      obtain ⟨σ', H', J', q⟩ := hsp
      exact wpAny_execs_nil ⟨σ', H', J'.ofTry ok, q⟩
    | brk =>
      obtain ⟨σ', H', J', q⟩ := hsp
      exact ⟨σ', H', J'.ofTry ok, q⟩
    | cont =>
      obtain ⟨σ', H', J', q⟩ := hsp
      exact ⟨σ', H', J'.ofTry ok, q⟩
    | ret u =>
      obtain ⟨v, σ', H', J', r, q⟩ := hsp
      exact ⟨v, σ', H', J'.ofTry ok, r, q⟩
/-- e.f, e a tracked exception of the class C -/
def tXt (K : PySem.W.Frag) (f : Str) (te : TE) : TE := fun σ H Q => te σ H fun x H1 => ∃ (a C dd : Addr) (fs : List (Str × V)) (v : V), x = .ref a ∧ XfC K C ∧ PySem.W.findIn K (.ref C) f = some none ∧ H1 a = some (ExT (.ref C) (some dd) a) ∧ H1 dd = some (.xd fs) ∧ fs.lookup f = some v ∧ Q v H1
theorem pe_xt {e : Expr} {te : TE} {pos : Pos} {f : Str} (he : PE X e te) (hb : attributeBase e f X.env (eval e X.env) = eval e X.env := by rfl) : PE X (.Attribute e f pos) (tXt X.K f te) := by
  refine ⟨fun pins s σ H Q I h => ?_⟩
  refine attr_of hb (thn (he.run pins s σ H _ I h) fun u s1 hh => ?_)
  obtain ⟨x, H1, I1, rx, a, C, dd, fs, v, ex, T, hno, ea, ed, l, q⟩ := hh
  subst ex
  obtain rfl : u = Value.ref a := rx
  obtain ⟨oe, vs, ha, hz, hd⟩ := exT_at I1.hok ea
  have hx : ObjOk X.prog X.w H1 s1.heap dd (.xd fs) := I1.hok dd _ ed
  obtain ⟨mA, hns, hr⟩ := hx
  obtain ⟨od, ho, hl⟩ := lookIn_ns hns
  obtain ⟨u, hu, ru⟩ := RelO.some_of (v := v) (o := mA f) (by rw [← l]; exact hr f)
  have J : PySem.W.InstAt s1.heap a oe C (some od) := ⟨ha, hz.1, by unfold PySem.W.notCls; rw [hd] <;> rfl, by rw [hz.2]; exact ho⟩
  exact HandSPX.exc_get I1.kIn J T.ga T.gg T.exC (PySem.W.findObj_own T.hdC hno rfl (by rw [hl, hu])) (handed_of ru) ⟨v, H1, I1.tok _, ru, q⟩
end
end L2
set_option Elab.async false
set_option linter.all false
set_option maxRecDepth 100000
set_option maxHeartbeats 4000000
/-! isinstance of a tracked exception. -/
namespace PySem.W
open PySem PySem.Spec PySem.Calls PyProof.Rows
section
variable {prog : Program} {w : World} {A : Around} {E : Value → Shared → Prop} {s : Shared} {K : Frag} {x D : Addr} {ox : Obj} {od : Option Obj}
theorem nv_findObj {C : Addr} {name : Str} {a g : Value} (hc : (clsIn K C).isSome = true) (ha : findIn K (.ref C) name = some (some a)) (hg : specialIn K a "__get__" = some (some g)) (ht : takesIn K a = some true) : findObj K C od name = some (.bind g a) := by
  obtain ⟨cd, hc⟩ := Option.isSome_iff_exists.mp hc
  unfold findObj
  rw [hc, Option.bind_some, ha, Option.bind_some]
  simp [hg, ht]
theorem nv_class {Q : Option Value → Shared → Prop} (hga : findIn K (.ref D) "__getattribute__" = some (some (.builtin "BaseException.__getattribute__"))) (hgt : findIn K (.ref D) "__getattr__" = some none) (hsub : subIn K (.ref D) (.type "BaseException") = some true)
    (hdct : hasDictIn K D = true) (ha : findIn K (.ref D) "__class__" = some (some (.builtin "object.__class__")))
    (hn : specialIn K (.builtin "object.__class__") "__get__" = some (some (.builtin "getset_descriptor.__get__"))) (htk : takesIn K (.builtin "object.__class__") = some true) (hm : mroIn K D (.type "object") = some true)
    (X : K.In s.heap) (I : InstAt s.heap x ox D od) (h : Q (some (.ref D)) { s with toks := s.toks + 1 }) : wpAny (model prog w) A (getAttr? (.ref x) "__class__") Q E s := by
  have hf : findObj K D od "__class__" = some (.bind (.builtin "getset_descriptor.__get__") (.builtin "object.__class__")) := nv_findObj (by obtain ⟨cd, hc, _⟩ := any_some hdct; rw [hc]; rfl) ha hn htk
  obtain ⟨hp, g, d, t, os⟩ := s
  have L0 := I.type (M := model prog w)
  have L1 := looks_findIn (M := model prog w) X hga
  have L2 := looks_findIn (M := model prog w) X hgt
  have L3 := looks_find (M := model prog w) X I hf
  have sub : Looks (model prog w) hp (isInstance (.ref x) (.type "BaseException")) true := L0.andThen (looks_subIn X hsub)
  have hx0 : (false && onTheHeap (Value.builtin "BaseException.__getattribute__")) = false := rfl
  have hx2 : (Value.builtin "BaseException.__getattribute__" == Value.builtin "object.__getattribute__") = false := by decide +kernel
  have hx1 : (onTheHeap (Value.ref D) && Value.builtin "BaseException.__getattribute__" == Value.builtin "object.__getattribute__") = false := by rw [hx2]; rfl
  unfold getAttr? getAttrBy? getAttrBy
  refine wpAny_bind (wpAny_mkText (wpAny_bind (wpAny_attempt (wpAny_holding (wpAny_bind (L0.at (wpAny_bind (L1.at ?_))))))))
  show wpAny _ _ (if (onTheHeap (Value.ref D) && Value.builtin "BaseException.__getattribute__" == Value.builtin "object.__getattribute__") = true then _ else _) _ _ _
  rw [hx1, if_neg Bool.false_ne_true]
  unfold getAttrByItsOwn hookBefore
  refine wpAny_bind ?_
  rw [if_pos (show onTheHeap (Value.ref D) = true from rfl)]
  refine L2.at ?_
  refine wpAny_bind (wpAny_attempt (wpAny_holding ?_))
  unfold callGetattribute
  rw [hx0, if_neg Bool.false_ne_true]
  unfold boundAndCalled
  rw [PySem.F.excAttr_ValueError.ga.bind (.ref x)]
  refine wpAny_bind (wpAny_pure ?_)
  show wpAny _ _ (call (.builtin "BaseException.__getattribute__") [.ref x, .str "__class__" t]) _ _ _
  refine wpAny_call (codeAny_call_builtin PySem.F.excAttr_ValueError.ga.plain PySem.F.entry_bexc_ga ?_)
  refine @check_slot (model prog w) _ _ ⟨hp, g, d, t + 1, os⟩ "BaseException.__getattribute__" "BaseException" "__getattribute__" (.ref x) [.str "__class__" t] [] _ (by decide +kernel) (by decide +kernel) sub (PySem.F.args_bexc_ga (.ref x) (.str "__class__" t)) ?_
  unfold Builtin.«object.__getattribute__»
  refine wpAny_bind (wpAny_of_eq (a := ((Value.ref x : Value), [Value.str "__class__" t])) (by first | rfl | (simp only [slotArgs]; rfl)) ?_)
  refine wpAny_bind (wpAny_pure (wpAny_bind (L0.at (wpAny_bind (L3.at ?_)))))
  show wpAny _ _ (holding [Value.builtin "object.__class__"] (call (.builtin "getset_descriptor.__get__") [.builtin "object.__class__", .ref x, .ref D]) >>= ret) _ _ _
  refine wpAny_bind (wpAny_holding (wpAny_call (class_get (s := ⟨hp, g, d, t + 1, os⟩) (ox := ox) (od := od) X I hm ?_)))
  refine wpAny_pure ?_
  show wpAny _ _ (handedOut (.ref D)) _ _ _
  rw [handedOut_of (v := .ref D) rfl]
  first
    | exact wpAny_pure (wpAny_pure h)
    | exact wpAny_pure h
    | exact wpAny_pure (wpAny_bind (wpAny_pure (wpAny_pure h)))
theorem nv_kitx (hga : findIn K (.ref D) "__getattribute__" = some (some (.builtin "BaseException.__getattribute__"))) (hgt : findIn K (.ref D) "__getattr__" = some none) (hsub : subIn K (.ref D) (.type "BaseException") = some true) (hdct : hasDictIn K D = true) (ha : findIn K (.ref D) "__class__" = some (some (.builtin "object.__class__")))
    (hn : specialIn K (.builtin "object.__class__") "__get__" = some (some (.builtin "getset_descriptor.__get__"))) (htk : takesIn K (.builtin "object.__class__") = some true) (hm : mroIn K D (.type "object") = some true) :
    KitX K (.ref x) (.ref D) (fun h => InstAt h x ox D od) where
  ty := fun _ _ _ I => I.type
  it := fun _ _ X _ => by
    obtain ⟨cdD, hcD, _⟩ := any_some hdct
    unfold clsIn at hcD
    split at hcD
    · rename_i c' d' cd' sl' ho
      intro A' Q' E' s' k q
      unfold isType loadHead
      exact wpAny_bind (wpAny_loadPart (k _ _ (X _ _ ho)) (wpAny_pure q))
    · cases hcD
  ne := fun h tp dd its n sl X htp => by
    obtain ⟨cdD, hcD, _⟩ := any_some hdct
    refine Bool.eq_false_iff.mpr fun q => ?_
    have e : D = tp := Value.ref.inj (beq_iff_eq.mp q)
    subst e
    unfold clsIn at hcD
    split at hcD
    · rename_i c' d' cd' sl' ho
      have z := (X _ _ ho).symm.trans htp
      cases z
    · cases hcD
  ca := fun X I k => nv_class hga hgt hsub hdct ha hn htk hm X I k
end
end PySem.W
namespace L2
open PySem PySem.Spec PyProof.Rows
/-- isinstance(e, c), e a tracked exception of the class D with its own dict -/
def rIsX (K : PySem.W.Frag) : List V → Hp → VK → Prop := fun xs H Q => ∃ (a D dd : Addr) (fs : List (Str × V)) (c : V) (cv : Value) (b : Bool), xs = [.ref a, c] ∧ ExcC K D ∧ H a = some (ExT (.ref D) (some dd) a) ∧ H dd = some (.xd fs) ∧ ClsV c cv ∧ PySem.W.kitOne K (.ref D) cv = some b ∧ Q (.bl b) H
theorem call_isX {X : Cx} : CallR X (.builtin "isinstance") (rIsX X.K) := by
  intro pins s σ H xs us Q I r h
  obtain ⟨a, D, dd, fs, c, cv, b, rfl, C, ea, ed, k, e, q⟩ := h
  obtain ⟨u1, u2, rfl, r1, r2⟩ := vals2 r
  have e2 := k.eq r2
  subst e2
  cases (show u1 = Value.ref a from r1)
  obtain ⟨oe, vs, ha, hz, hd⟩ := exT_at I.hok ea
  have hx : ObjOk X.prog X.w H s.heap dd (.xd fs) := I.hok dd _ ed
  obtain ⟨mA, hns, hr⟩ := hx
  obtain ⟨od, ho, hl⟩ := lookIn_ns hns
  have J : PySem.W.InstAt s.heap a oe D (some od) := ⟨ha, hz.1, by unfold PySem.W.notCls; rw [hd] <;> rfl, by rw [hz.2]; exact ho⟩
  exact PySem.W.kia_one (PySem.W.nv_kitx C.hg C.hk C.hs C.hd C.ha C.hn C.ht C.hm) I.kIn J e (fun z => nomatch z) fun tk => ⟨.bl b, H, I.kept (t' := tk) fun _ _ z => z, rfl, q⟩
end L2
set_option Elab.async false
set_option linter.all false
set_option maxRecDepth 100000
set_option maxHeartbeats 4000000
/-! Lambdas handed to a def, perhaps with one parameter that has a written number as its default. -/
namespace NvL
open PySem PySem.Spec PyProof.Rows L2 LamX
/-- the made function -/
structure LamF (X : Cx) (params : Arguments) (body : Expr) (scope : Scope) (s' : Shared) (H1 : Hp) (f c' : Addr) (dv : List Value) : Prop where
  obj : ∃ (pm ctv doc dV : Value), s'.heap.get? f = some (PySem.W.kdv_obj "<lambda>" (X.env.qual ++ "<lambda>") params (.expr body) scope (cloFrom X.env.cells scope.names []) dV doc pm c' ctv) ∧
    ((dv = [] ∧ dV = .none) ∨ ∃ T, dv ≠ [] ∧ dV = .ref T ∧ s'.heap.get? T = some (PySem.W.kdv_tup dv) ∧ H1 T = none ∧ T ∉ frs X.stack)
  free : H1 f = none
  fr : f ∉ frs X.stack
section
variable {X : Cx} {pins : List (Addr × Obj)} {σ : L2.St} {H : Hp} {s : Shared}
theorem nofr_of (I : Inv X pins σ H s) : ∀ f, s.heap.objs.size ≤ f → f ∉ frs X.stack := fun f hf z => by
  rcases List.mem_cons.mp (I.stkSub _ z) with e | e
  · have h1 := I.lt
    rw [← e] at h1
    exact Nat.lt_irrefl _ (Nat.lt_of_lt_of_le h1 hf)
  · exact I.nofs hf e
/-- the function's making behind its defaults -/
theorem lam_tail {T : List (Addr × Str)} {c P : Addr} {params : Arguments} {body : Expr} {scope : Scope} {pos : Pos} {E : Value → Shared → Prop} {Q : Value → Shared → Prop} {dV : Value} {dv : List Value} (I : Inv X pins σ H s) (TB : TabB X.base X.mg c P) (hcode : X.env.code = .ref c)
    (hm : (P, X.env.qual ++ "<lambda>") ∈ T) (hu : ∀ p ∈ T, p.1 = P → p.2 = X.env.qual ++ "<lambda>") (hT : Tabs T H) (hfree : ∀ y ∈ scope.names, y.2 = .free → ∃ c, X.env.cells.lookup y.1 = some c)
    (hdV : (dv = [] ∧ dV = .none) ∨ ∃ T, dv ≠ [] ∧ dV = .ref T ∧ s.heap.get? T = some (PySem.W.kdv_tup dv) ∧ H T = none ∧ T ∉ frs X.stack)
    (h : ∀ (f c' : Addr) (H1 : Hp) (s' : Shared), Inv X pins σ H1 s' → ExtN H H1 → Tabs T H1 → LamF X params body scope s' H1 f c' dv → H1 c' = some (CodeO c' (X.env.qual ++ "<lambda>")) → Q (.ref f) s') :
    wpAny (model X.prog X.w) X.A (makeTail "<lambda>" (X.env.qual ++ "<lambda>") params (.expr body) scope X.env dV .none none pos pos.line) Q E s := by
  obtain ⟨ps, hP, ht, ha⟩ := hT _ hm
  have bP : s.heap.BuiltinsAt X.mg P := TB.bm.keeps I.bk
  have hP' : s.heap.get? P = some { cls := .none, data := .fields ps } := I.hok P _ hP
  have nofr := nofr_of I
  have ob0 : ∀ {h1 : Heap}, (∀ b o, b ≠ P → s.heap.get? b = some o → h1.get? b = some o) → ∀ {H1 : Hp}, (∀ b, s.heap.get? b ≠ none → H b = none → H1 b = none) → (dv = [] ∧ dV = .none) ∨ ∃ T, dv ≠ [] ∧ dV = .ref T ∧ h1.get? T = some (PySem.W.kdv_tup dv) ∧ H1 T = none ∧ T ∉ frs X.stack := fun {h1} k {H1} kn => by
    rcases hdV with e | ⟨T0, e0, e, e1, e2, e3⟩
    · exact .inl e
    · have nP : T0 ≠ P := fun z => by rw [z, hP] at e2; cases e2
      exact .inr ⟨T0, e0, e, k _ _ nP e1, kn _ (by rw [e1]; exact fun z => nomatch z) e2, e3⟩
  cases hc : codeAmong pos ps.toList with
  | none =>
    refine PySem.W.kdv_makeTail (mg := X.mg) (c := c) (P := P) (ps := ps) (closure_ok hfree) I.ok.glob (I.mod.glob.keeps I.bk) hcode (TB.code.keeps I.bk) hP' ht hc TB.gP bP fun c' ctv doc h' tk hx hge hlt hrec htb => ?_
    obtain ⟨c2, oc, vs, t, e2, hoc, hd, hv⟩ := hrec
    cases e2
    have hsz : s.heap.objs.size ≤ h'.objs.size := Nat.le_trans hge (Nat.le_of_lt hlt)
    have nC : H c' = none := I.hok.fresh hge
    have nP : P ≠ c' := ne_of_none hP nC
    have kk : ∀ b o, b ≠ P → s.heap.get? b = some o → (h'.push (PySem.W.kdv_obj "<lambda>" (X.env.qual ++ "<lambda>") params (.expr body) scope (cloFrom X.env.cells scope.names []) dV doc ((X.mg "__name__").getD .none) c' ctv)).get? b = some o := fun b o hb e => Heap.get?_push_of_some _ (hx b o hb e)
    have I1 := inv_table (t' := tk) (more := #[rawInt pos.line, rawInt pos.col, .ref c']) I hP kk (Heap.get?_push_of_some _ htb) hge ⟨oc, vs, t, Heap.get?_push_of_some _ hoc, hd, hv⟩
    have hE : ExtN H (upd (upd H P (.tbl (ps ++ #[rawInt pos.line, rawInt pos.col, .ref c']))) c' (CodeO c' (X.env.qual ++ "<lambda>"))) := fun b o e n => by
      rw [upd_ne (ne_of_none e nC), upd_ne (fun z => n ps (Option.some.inj (e.symm.trans (by rw [z]; exact hP))))]
      exact e
    have eL : (ps ++ #[rawInt pos.line, rawInt pos.col, .ref c']).toList = ps.toList ++ [rawInt pos.line, rawInt pos.col, .ref c'] := by simp
    have stay : ∀ b, s.heap.get? b ≠ none → H b = none → upd (upd H P (.tbl (ps ++ #[rawInt pos.line, rawInt pos.col, .ref c']))) c' (CodeO c' (X.env.qual ++ "<lambda>")) b = none := fun b hb n => by
      have n1 : b ≠ c' := fun z => hb (by rw [z]; exact Heap.get?_none_of_le hge)
      have n2 : b ≠ P := fun z => by rw [z, hP] at n; cases n
      rw [upd_ne n1, upd_ne n2]
      exact n
    refine h h'.objs.size c' _ _ I1 hE (fun p hp => ?_) ⟨⟨_, ctv, doc, dV, Heap.get?_push_size _ rfl, ob0 kk stay⟩, ?_, nofr _ hsz⟩ upd_same
    · by_cases hb : p.1 = P
      · rw [hu p hp hb, hb]
        refine ⟨_, by rw [upd_ne nP, upd_same], by rw [eL]; exact PySem.TriplesOk_snoc _ _ _ _ ht, fun p' cv hcv => ?_⟩
        rw [eL] at hcv
        rcases among_app _ ht hcv with z | z
        · obtain ⟨c0, e1, e2⟩ := ha p' cv z
          exact ⟨c0, e1, hE _ _ e2 codeO_ne⟩
        · exact ⟨c', z, upd_same⟩
      · obtain ⟨ps', a1, a2, a3⟩ := hT p hp
        refine ⟨ps', by rw [upd_ne (ne_of_none a1 nC), upd_ne hb]; exact a1, a2, fun p' cv hcv => ?_⟩
        obtain ⟨c0, e1, e2⟩ := a3 p' cv hcv
        exact ⟨c0, e1, hE _ _ e2 codeO_ne⟩
    · have n1 : h'.objs.size ≠ c' := Nat.ne_of_gt hlt
      have n2 : h'.objs.size ≠ P := Nat.ne_of_gt (Nat.lt_of_lt_of_le (Heap.lt_size hP') hsz)
      rw [upd_ne n1, upd_ne n2]
      exact I.hok.fresh hsz
  | some cv =>
    obtain ⟨c', e, hco⟩ := ha pos cv hc
    subst e
    refine PySem.W.kdv_makeTailHit (mg := X.mg) (c := c) (P := P) (ps := ps) (closure_ok hfree) I.ok.glob (I.mod.glob.keeps I.bk) hcode (TB.code.keeps I.bk) hP' ht hc bP fun ctv doc h' tk hx hsz => ?_
    have I1 : Inv X pins σ H { s with heap := h'.push (PySem.W.kdv_obj "<lambda>" (X.env.qual ++ "<lambda>") params (.expr body) scope (cloFrom X.env.cells scope.names []) dV doc ((X.mg "__name__").getD .none) c' ctv), toks := tk } := I.kept fun b o e => Heap.get?_push_of_some _ (hx b o e)
    exact h h'.objs.size c' H _ I1 (ExtN.refl H) hT ⟨⟨_, ctv, doc, dV, Heap.get?_push_size _ rfl, ob0 (fun b o _ e => Heap.get?_push_of_some _ (hx b o e)) fun _ _ n => n⟩, I.hok.fresh hsz, nofr _ hsz⟩ hco
/-- the written defaults of the lambda: none, or one number -/
inductive Dfl : List Expr → List Int → Prop where
  | nil : Dfl [] []
  | one (k : Int) (j : Nat) (p : Pos) : Dfl [.Constant (.int k) j p] [k]
theorem lam_make3 {T : List (Addr × Str)} {c P : Addr} {params : Arguments} {body : Expr} {scope : Scope} {pos : Pos} {E : Value → Shared → Prop} {Q : Value → Shared → Prop} {ks : List Int} (I : Inv X pins σ H s) (TB : TabB X.base X.mg c P) (hcode : X.env.code = .ref c)
    (hm : (P, X.env.qual ++ "<lambda>") ∈ T) (hu : ∀ p ∈ T, p.1 = P → p.2 = X.env.qual ++ "<lambda>") (hT : Tabs T H) (hfree : ∀ y ∈ scope.names, y.2 = .free → ∃ c, X.env.cells.lookup y.1 = some c)
    (hk0 : params.kw_defaults = []) (hdf : Dfl params.defaults ks)
    (h : ∀ (f c' : Addr) (dv : List Value) (H1 : Hp) (s' : Shared), Inv X pins σ H1 s' → ExtN H H1 → Tabs T H1 → LamF X params body scope s' H1 f c' dv → IntsAre dv ks → H1 c' = some (CodeO c' (X.env.qual ++ "<lambda>")) → Q (.ref f) s') :
    wpAny (model X.prog X.w) X.A (eval (.Lambda params body scope pos) X.env) Q E s := by
  cases hd : params.defaults with
  | nil =>
    rw [hd] at hdf
    cases hdf
    rw [arm_eval_Lambda, defaultsOf_eq, hk0, hd]
    show wpAny _ _ (do let dv ← evalAll (evalEach [] X.env); let kdv ← holding dv (evalAllOpt []); makeFunction "<lambda>" (X.env.qual ++ "<lambda>") params (.expr body) scope X.env dv kdv [] pos pos.line) Q E s
    refine wpAny_bind (PySem.W.kdv_all0 (wpAny_bind (wpAny_holding (wpAny_pure ?_))))
    rw [makeFunction_eq]
    simp only [List.zip_nil_right, List.filterMap_nil, List.isEmpty_nil, if_true, pure_bind]
    exact lam_tail (dv := []) I TB hcode hm hu hT hfree (.inl ⟨rfl, rfl⟩) fun f c' H1 s' I1 e1 t1 L hc => h f c' [] H1 s' I1 e1 t1 L .nil hc
  | cons e0 er =>
    rw [hd] at hdf
    cases hdf with
    | one k j p =>
    rw [arm_eval_Lambda, defaultsOf_eq, hk0, hd]
    show wpAny _ _ (do let dv ← evalAll (evalEach [.Constant (.int k) j p] X.env); let kdv ← holding dv (evalAllOpt []); makeFunction "<lambda>" (X.env.qual ++ "<lambda>") params (.expr body) scope X.env dv kdv [] pos pos.line) Q E s
    refine wpAny_bind (PySem.W.kdv_all1 (wpAny_Constant_int (PySem.W.kdv_all0 (wpAny_bind (wpAny_holding (wpAny_pure ?_))))))
    rw [makeFunction_eq]
    simp only [List.zip_nil_right, List.filterMap_nil, List.isEmpty_nil, if_true, pure_bind, List.isEmpty_cons, Bool.false_eq_true, if_false]
    refine wpAny_bind (wpAny_newTextTuple ?_)
    have I0 := I.tok (s.toks + 1)
    have I1 : Inv X pins σ H { s with heap := s.heap.push (PySem.W.kdv_tup [.int k s.toks]), toks := s.toks + 1 } := I.kept fun b o e => Heap.get?_push_of_some _ e
    exact lam_tail (dv := [.int k s.toks]) I1 TB hcode hm hu hT hfree (.inr ⟨s.heap.objs.size, List.cons_ne_nil _ _, rfl, Heap.get?_push_size _ rfl, I.hok.fresh (Nat.le_refl _), nofr_of I _ (Nat.le_refl _)⟩) fun f c' H1 s' I2 e1 t1 L hc => h f c' _ H1 s' I2 e1 t1 L (by repeat constructor) hc
end
end NvL
set_option Elab.async false
set_option linter.all false
set_option maxRecDepth 100000
set_option maxHeartbeats 4000000
namespace NvL
open PySem PySem.Spec PyProof.Rows L2 LamX
/-- the lambda's names: captured ones and globals; a parameter of its own is no name of the def around (N) -/
structure LamS3 (N : List Str) (sc scope : Scope) : Prop where
  kind : scope.kind = .function
  co : scope.isCoroutine = false
  gen : scope.isGenerator = false
  own : ∀ y ∈ scope.names, (y.2 = .local → y.1 ∉ N) ∧ y.2 ≠ .cell
  free : ∀ y ∈ scope.names, y.2 = .free → sc.names.lookup y.1 = some .cell ∨ sc.names.lookup y.1 = some .free
def lamS3B (N : List Str) (sc scope : Scope) : Bool :=
  decide (scope.kind = .function) && !scope.isCoroutine && !scope.isGenerator && scope.names.all fun y => (!decide (y.2 = .local) || !N.contains y.1) && !decide (y.2 = .cell) && (!decide (y.2 = .free) || decide (sc.names.lookup y.1 = some .cell) || decide (sc.names.lookup y.1 = some .free))
theorem lamS3_by {N : List Str} {sc scope : Scope} (h : lamS3B N sc scope = true) : LamS3 N sc scope := by
  unfold lamS3B at h
  simp only [Bool.and_eq_true, Bool.or_eq_true, Bool.not_eq_true', decide_eq_true_eq, decide_eq_false_iff_not, List.all_eq_true] at h
  obtain ⟨⟨⟨h1, h2⟩, h3⟩, h4⟩ := h
  refine ⟨h1, h2, h3, fun y hy => ⟨fun e => ?_, (h4 y hy).1.2⟩, fun y hy e => ?_⟩
  · rcases (h4 y hy).1.1 with z | z
    · exact absurd e z
    · intro hm
      rw [List.contains_iff_mem.mpr hm] at z
      cases z
  · rcases (h4 y hy).2 with (z | z) | z
    · exact absurd e z
    · exact .inl z
    · exact .inr z
/-- how a call without arguments binds -/
structure LamB (params : Arguments) (body : Expr) (scope : Scope) (ks : List Int) : Prop where
  b0 : ks = [] → ∀ (q : Str) (cl : List (Str × Addr)) (doc pm cv ctv : Value), bindArgs (PySem.W.kdv_fn "<lambda>" q params (.expr body) scope cl .none doc pm cv ctv) ⟨[], []⟩ = pure []
  b1 : ∀ k, ks = [k] → ∃ a : Str, scope.names.lookup a = some .local ∧ ∀ (q : Str) (cl : List (Str × Addr)) (doc pm cv ctv : Value) (T : Addr), ∃ kk, bindArgs (PySem.W.kdv_fn "<lambda>" q params (.expr body) scope cl (.ref T) doc pm cv ctv) ⟨[], []⟩ = seqItems? (.ref T) >>= kk ∧ ∀ v : Value, kk (some #[v]) = pure [(a, v)]
section
variable {X : Cx} {pins : List (Addr × Obj)} {σ : L2.St} {H HZ : Hp} {s s1 : Shared}
theorem Dfl.tail {l : List Expr} {k : Int} {ns : List Int} (h : Dfl l (k :: ns)) : ns = [] := by
  generalize e : k :: ns = ks at h
  cases h with
  | nil => cases e
  | one k j p => cases e; rfl
theorem LamS3.has {scope : Scope} (L : LamS3 X.N X.env.scope scope) (ok : X.Ok) : ∀ y ∈ scope.names, y.2 = .free → ∃ c, X.env.cells.lookup y.1 = some c := fun y hy e => by
  rcases L.free y hy e with k | k
  · exact ok.has _ (.inl k)
  · exact ok.has _ (.inr k)
theorem lam_start3 {A : Around} {outer : List Env} {E : XK} {scope : Scope} {f c' : Addr} {h₁ : Heap} {tk : Nat} {m1 : Str → Option Value} (I : Inv X pins σ H s) (L : LamS3 X.N X.env.scope scope) (e0 : Env0 X.prog X.w X.K X.mg X.base A outer s1 HZ) (hd : A.handled = none)
    (un : Un (frs X.stack) [] H HZ s.heap s1.heap) (hns : h₁.Ns s1.heap.objs.size m1) (kp : ∀ b o, s1.heap.get? b = some o → h₁.get? b = some o) :
    Inv (lamCx X A outer s1 HZ E scope f c') [] σ HZ { s1 with heap := h₁, toks := tk } := by
  have hfree := L.has I.ok
  have cm : ∀ {y c}, (cloFrom X.env.cells scope.names []).lookup y = some c → X.env.cells.lookup y = some c := fun {y c} e => by
    rcases cloFrom_mem (PySem.mem_of_lookup e) with hm | ⟨h1, h2⟩
    · cases hm
    · obtain ⟨c1, hc⟩ := hfree _ h1 rfl
      have hc : X.env.cells.lookup y = some c1 := hc
      have e2 : c = c1 := by
        rw [h2, hc] <;> rfl
      rw [e2]
      exact hc
  have look : ∀ {y}, scope.names.lookup y = some .free → ∃ c, (cloFrom X.env.cells scope.names []).lookup y = some c := fun {y} hl => by
    have hy : (y, NameKind.free) ∈ scope.names := PySem.mem_of_lookup hl
    exact mem_lookup (cloFrom_has (cells := X.env.cells) (acc := []) hy)
  have cellK : ∀ {c : Addr} {v : Option Value}, H c = none → s.heap.IsCell c v → h₁.IsCell c v := fun {c v} n ⟨o, ho, hd⟩ => by
    obtain ⟨sl, q⟩ := un.any ho n (by simp)
    exact ⟨_, kp _ _ q, hd⟩
  have noA : ∀ b : Addr, b ∉ (lamCx X A outer s1 HZ E scope f c').ex := fun b z => absurd (show b ∈ ([] : List Addr) from z) (by simp)
  refine ⟨⟨e0.mod, L.kind, rfl, rfl, Nat.le_refl _, fun y z c e1 e2 => I.ok.inj y z c (cm e1) (cm e2), fun y hy => ?_, fun y c z _ => ?_, fun _ => hd, Around.frames_deeper e0.frames, .inr ⟨rfl, rfl⟩, fun b z => absurd z (noA b), e0.bs, e0.bsz, fun b _ _ => noA b,
      fun b z => absurd z (noA b), e0.funs, e0.frf⟩,
    rfl, e0.bare, Un.kept kp, ⟨_, hns, fun i y v e1 e2 e3 => ?_⟩, fun y c e => ?_, e0.hok.fresh (Nat.le_refl _), fun y c e => ?_, fun q hq => absurd (show q ∈ ([] : List (Addr × Obj)) ++ [] from hq) (by simp), e0.hok.kept kp, I.len⟩
  · have hy : scope.names.lookup y = some .cell ∨ scope.names.lookup y = some .free := hy
    rcases hy with hy | hy
    · exact absurd rfl (L.own _ (PySem.mem_of_lookup hy)).2
    · exact look hy
  · have z : false = true := z
    cases z
  · have e3 : Vis scope y := e3
    rcases e3 with k | k | k
    · exact absurd (List.mem_of_getElem? e1) ((L.own _ (PySem.mem_of_lookup k)).1 rfl)
    · exact absurd rfl (L.own _ (PySem.mem_of_lookup k)).2
    · obtain ⟨m, hn, hl⟩ := I.loc
      have hvis : Vis X.env.scope y := (L.free _ (PySem.mem_of_lookup k) rfl).elim (fun k => .inr (.inl k)) (fun k => .inr (.inr k))
      obtain ⟨w', r, q⟩ := hl i y v e1 e2 hvis
      obtain ⟨c2, h2⟩ := look k
      refine ⟨w', r, .inr ⟨.inr k, c2, h2, ?_⟩⟩
      have c1 := cm h2
      rcases q with ⟨k', _⟩ | ⟨_, c3, e', z⟩
      · have k' : X.env.scope.names.lookup y = some .local := k'
        rcases L.free _ (PySem.mem_of_lookup k) rfl with k2 | k2 <;> rw [show X.env.scope.names.lookup y = _ from k2] at k' <;> cases k'
      · rw [c1] at e'
        cases e'
        exact cellK (I.freeC y _ c1) z
  · obtain ⟨w', z⟩ := I.cell y c (cm e)
    exact ⟨w', cellK (I.freeC y c (cm e)) z⟩
  · obtain ⟨v, o, ho, hd⟩ := I.cell y c (cm e)
    exact un.free c o ho (I.freeC y c (cm e)) (by simp)
/-- a(), in the def that got the lambda: that def's context, entered at s -/
theorem pe_act3 {Ng : List Str} {qg : Str} {sg : Scope} {g f c' : Addr} {cdg : Value} {params : Arguments} {body : Expr} {scope : Scope} {k i : Nat} {a : Str} {pn : List (Addr × Obj)} {xe : Value → Shared → Prop} {W : WX} {E : XK} {tb : TE} {p1 p2 : Pos} {dv : List Value} {ks : List Int}
    (I : Inv X pins σ H s) (L : LamS3 X.N X.env.scope scope) (F : LamF X params body scope s H f c' dv) (hks : IntsAre dv ks) (B : LamB params body scope ks) (hdf : Dfl params.defaults ks)
    (tk : Takes ((cxOf CX0 X.prog X.w X.K X.mg X.base Ng qg sg g cdg X.A X.stack s H E0).tr pn xe) W) (hW : ∀ cls d σ' H', σ'.length = Ng.length → E cls d H' → W cls d σ' H') (hr : Room (k + 1) (X.A.deeper (envOfC qg sg s.heap.objs.size g cdg)))
    (hbody : ∀ (A : Around) (outer : List Env) (s : Shared) (H : Hp), Room k (A.deeper (lamEnv X scope s.heap.objs.size f c')) → PE (lamCx X A outer s H E scope f c') body tb)
    (hN : Ng[i]? = some a) (hv : Vis sg a) (hd : (a == ("__debug__" : Str)) = false := by decide) (hcd : (a == ("__classdict__" : Str)) = false := by decide) :
    PE ((cxOf CX0 X.prog X.w X.K X.mg X.base Ng qg sg g cdg X.A X.stack s H E0).tr pn xe) (.Call (.Name a p1) [] [] p2)
      (fun σZ HZ Q => σZ[i]? = some (some (.ref f)) ∧ HZ c' = some (CodeO c' (X.env.qual ++ "<lambda>")) ∧ tb σ HZ Q) := by
  refine ⟨fun pinsZ sZ σZ HZ Q IZ h => ?_⟩
  obtain ⟨hs, hc, ht⟩ := h
  refine wpAny_Call_Name_kw (thn ((pe_var (pos := p1) (i := i) hN hv hd hcd).run pinsZ sZ σZ HZ (fun v H1 => v = .ref f ∧ H1 = HZ) IZ ⟨.ref f, hs, rfl, rfl⟩) fun u s1 ⟨v, H1, I1, r1, q1⟩ => ?_)
  obtain ⟨ev, eH⟩ := q1
  subst ev
  rw [eH] at I1
  obtain rfl : u = Value.ref f := r1
  obtain ⟨pm, ctv, doc, dV, hf, hdV⟩ := F.obj
  have of1 : s1.heap.get? f = some (PySem.W.kdv_obj "<lambda>" (X.env.qual ++ "<lambda>") params (.expr body) scope (cloFrom X.env.cells scope.names []) dV doc pm c' ctv) := I1.base.keep f _ hf F.free F.fr (fun z => nomatch (show f ∈ ([] : List Addr) from z))
  refine PySem.W.callWith_F0 ⟨_, _, _, _, of1⟩ ?_
  have un : Un (frs X.stack) [] H HZ s.heap s1.heap := I1.base
  obtain ⟨⟨oc, vs, t, hoc, hdc, hvc⟩, _, _⟩ := I1.hok c' _ hc
  have hbind : ∃ binds, (∀ s2 : Shared, (∀ b o, s1.heap.get? b = some o → s2.heap.get? b = some o) → BindsTo s2 (PySem.W.kdv_fn "<lambda>" (X.env.qual ++ "<lambda>") params (.expr body) scope (cloFrom X.env.cells scope.names []) dV doc pm (.ref c') ctv) ⟨[], []⟩ binds) ∧ ∀ y ∈ binds, scope.names.lookup y.1 = some .local := by
    cases hks with
    | nil =>
      rcases hdV with ⟨_, e⟩ | ⟨T0, e0, e, e1, e2, e3⟩
      · exact ⟨[], fun s2 _ => .of_eq (by rw [e]; exact B.b0 rfl _ _ _ _ _ _), fun y hy => nomatch hy⟩
      · exact absurd rfl e0
    | @cons k0 t0 vs ns hr0 =>
      have en : ns = [] := hdf.tail
      subst en
      cases hr0
      rcases hdV with ⟨e0, _⟩ | ⟨T0, e0, e, e1, e2, e3⟩
      · cases e0
      · obtain ⟨a0, ha0, hb0⟩ := B.b1 k0 rfl
        obtain ⟨kk, h1, h2⟩ := hb0 (X.env.qual ++ "<lambda>") (cloFrom X.env.cells scope.names []) doc pm (.ref c') ctv T0
        have oT : s1.heap.get? T0 = some (PySem.W.kdv_tup [.int k0 t0]) := I1.base.keep T0 _ e1 e2 e3 (fun z => nomatch (show T0 ∈ ([] : List Addr) from z))
        subst e
        refine ⟨[(a0, .int k0 t0)], fun s2 k2 => .of_defaults rfl (k2 _ _ oT) rfl h1 (h2 _), fun y hy => ?_⟩
        rcases List.mem_singleton.mp hy with rfl
        exact ha0
  obtain ⟨binds, hbt, hloc⟩ := hbind
  have rc : codeAny (model X.prog X.w) (X.A.deeper (envOfC qg sg s.heap.objs.size g cdg)) (.call (.ref f) ⟨[], []⟩) (CR (L2.CX X.prog X.w) (envOfC qg sg s.heap.objs.size g cdg :: X.stack) X.prog X.w HZ s1 Q E) s1 := by
    refine PySem.W.kla_callFunE hr.depth of1 rfl L.co L.gen rfl ⟨c', oc, vs, t, rfl, hoc, hdc, hvc⟩ (hbt s1 (fun _ _ e => e) _ _ _ _ ?_)
    refine wpAny_newFunctionEnv (fun y hy => (L.own y hy).2) hloc (fun h₁ hns hsb => ⟨I1.nolimit.fresh _ hsb, ?_⟩) L.kind
    show codeAny _ _ (.expr body (lamEnv X scope s1.heap.objs.size f c')) _ _
    have kp : ∀ b o, s1.heap.get? b = some o → h₁.get? b = some o := fun b o e => hsb.extBut b o (Nat.ne_of_lt (Heap.lt_size e)) (Heap.get?_push_of_some _ e)
    have J := lam_start3 (tk := s1.toks + binds.length) (E := E) (f := f) (c' := c') I L I1.env0 hr.hd un hns kp
    refine PySem.W.kla_codeExpr (wpAny_mono ((hbody _ _ s1 HZ (hr.deeper _)).run [] _ _ HZ Q J ht) (fun v s' hq => ?_) fun e s' hq => hq)
    obtain ⟨w', H', J', rv, q⟩ := hq
    exact ⟨w', H', J'.os, J'.bare, J'.base, J'.hok, rv, q⟩
  refine wpAny_call (codeAny_mono rc fun r s' hq => ?_)
  cases r with
  | error e => exact tk e s' (XE.of_call I1 (fun cls d H' h => hW cls d σZ H' I1.len h) hq)
  | ok fl =>
    cases fl with
    | ret u => exact I1.after hq
    | next => exact False.elim hq
    | brk => exact False.elim hq
    | cont => exact False.elim hq
end
end NvL
set_option Elab.async false
set_option linter.all false
set_option maxRecDepth 100000
set_option maxHeartbeats 4000000
namespace NvL
open PySem PySem.Spec PyProof.Rows L2 LamX
/-- the def x that calls the lambda that it got as a: TT: what it makes of the lambda's reading -/
def Gives (X : Cx) (Ng : List Str) (x : Str) (sg : Scope) (g : Addr) (cdg : Value) (bg : List Stmt) (a : Str) (q : Str) (TT : (XK → Hp → VK → Prop) → Hp → VK → Prop) : Prop :=
  ∀ (f c' : Addr) (s : Shared) (H : Hp) (Q : VK) (tl : XK → Hp → VK → Prop),
    (∀ (W : WX) (pn : List (Addr × Obj)) (xe : Value → Shared → Prop) (E : XK) (p1 p2 : Pos), Takes ((cxOf CX0 X.prog X.w X.K X.mg X.base Ng x sg g cdg X.A X.stack s H E0).tr pn xe) W → (∀ cls d σ' H', σ'.length = Ng.length → E cls d H' → W cls d σ' H') →
      PE ((cxOf CX0 X.prog X.w X.K X.mg X.base Ng x sg g cdg X.A X.stack s H E0).tr pn xe) (.Call (.Name a p1) [] [] p2) (fun σZ HZ Q => σZ[0]? = some (some (.ref f)) ∧ HZ c' = some (CodeO c' q) ∧ tl E HZ Q)) →
    H c' = some (CodeO c' q) → TT tl H Q →
    ∃ t, PSs (cxOf CX0 X.prog X.w X.K X.mg X.base Ng x sg g cdg X.A X.stack s H E0).nox bg t ∧ t { nx := fun _ H' => Q .non H', rt := Q } (L2.start Ng [.ref f]) H
section
variable {X : Cx}
/-- x(lambda ..: body) -/
theorem pe_lamcall3 {T : List (Addr × Str)} {TT : (XK → Hp → VK → Prop) → Hp → VK → Prop} {x a : Str} {g c P : Addr} {k : Nat} {pg : Arguments} {bg : List Stmt} {sg : Scope} {dV kV doc pm cdv ct oc : Value} {an od : Option Addr} {osl : Array (Option Value)} {Ng : List Str}
    {params : Arguments} {body : Expr} {scope : Scope} {t : XK → TE} {p lpos pos : Pos} {ks : List Int} (hg : Gl X x) (hm : X.mg x = some (.ref g)) (hk : PySem.W.keepIn X.K (.ref g) = true)
    (lk : X.K.lookup g = some ⟨oc, od, .func (PySem.W.fnOf x x pg bg sg dV kV doc pm an cdv ct), osl⟩) (hcg : PySem.W.codeIn X.K cdv x = true) (hb : L2.Binds X.K (PySem.W.fnOf x x pg bg sg dV kV doc pm an cdv ct) [a] []) (Sg : FnScope Ng [a] sg) (hNg : Ng[0]? = some a) (hva : Vis sg a)
    (hG : Gives X Ng x sg g cdv bg a (X.env.qual ++ "<lambda>") TT)
    (TB : TabB X.base X.mg c P) (hcode : X.env.code = .ref c) (hmT : (P, X.env.qual ++ "<lambda>") ∈ T) (hu : ∀ p ∈ T, p.1 = P → p.2 = X.env.qual ++ "<lambda>") (hr : Room (k + 2) X.A) (L : LamS3 X.N X.env.scope scope)
    (hk0 : params.kw_defaults = []) (hdf : Dfl params.defaults ks) (B : LamB params body scope ks)
    (hbody : ∀ (A : Around) (outer : List Env) (s : Shared) (H : Hp) (E : XK) (f c' : Addr), Room k (A.deeper (lamEnv X scope s.heap.objs.size f c')) → PE (lamCx X A outer s H E scope f c') body (t E))
    (hdb : (x == ("__debug__" : Str)) = false := by decide) (hd : (a == ("__debug__" : Str)) = false := by decide) (hcd : (a == ("__classdict__" : Str)) = false := by decide) :
    PE X (.Call (.Name x p) [.Lambda params body scope lpos] [] pos) (tLam T TT t) := by
  refine ⟨fun pins s σ H Q I h => ?_⟩
  obtain ⟨hT, h⟩ := h
  refine wpAny_Call_Name_kw (ld_glob I hg hm ?_ hdb)
  refine PySem.W.callWith_K (h₀ := X.base) I.ok.mod.kin hk ?_ (by rfl) (by rfl)
  show wpAny _ _ (spliced ((false, eval (.Lambda params body scope lpos) X.env) :: backTo pos (starEach [] X.env))) _ _ s
  refine Calls.spliced_cons (lam_make3 I TB hcode hmT hu hT (L.has I.ok) hk0 hdf fun f c' dv H1 s' I1 eN T1 F hks hco => ?_)
  refine Calls.spliced_nil ⟨I1.kIn, ?_⟩
  have rc : codeAny (model X.prog X.w) X.A (.call (.ref g) ⟨[.ref f], []⟩) (CR CX0 X.stack X.prog X.w H1 s' Q E0) s' := by
    refine run_ofS (N := Ng) (ps := [a]) (us := [.ref f]) (vs := [.ref f]) lk hcg Sg hr I1.env0 (hb s' [.ref f] I1.kIn rfl) (.cons rfl .nil) rfl fun hr' => ?_
    obtain ⟨t', ht', hq'⟩ := hG f c' s' H1 Q (fun E H' Q' => t E σ H' Q') (fun W pn xe E p1 p2 tk hW => pe_act3 (i := 0) I1 L F hks B hdf tk hW hr' (fun A outer s H hr2 => hbody A outer s H E f c' hr2) hNg hva hd hcd) hco (h H1 eN T1)
    exact ⟨t', ht'.nox, hq'⟩
  refine wpAny_call (codeAny_mono rc fun r s2 hq => ?_)
  cases r with
  | error e => exact (show False from hq).elim
  | ok fl =>
    cases fl with
    | ret u => exact I1.after hq
    | next => exact False.elim hq
    | brk => exact False.elim hq
    | cont => exact False.elim hq
end
end NvL
set_option Elab.async false
set_option linter.all false
set_option maxRecDepth 100000
set_option maxHeartbeats 4000000
/-! Values as data: what a value is, whatever the addresses. -/
namespace Nv
open PySem L2
inductive D where
  | non | bl (b : Bool) | int (i : Int) | str (s : Str) | lst (xs : List D) | tup (xs : List D) | dic | ins (C : Addr)
abbrev Ex := Evl.Ex
/-- the mutable objects S stand -/
def Mem (S : Addr → Prop) (H : Hp) : Prop := ∀ b, S b → ∃ o, H b = some o
theorem Mem.ex {S : Addr → Prop} {H H' : Hp} (m : Mem S H) (e : Ex H H') : Mem S H' := fun b s => by
  obtain ⟨o, h⟩ := m b s
  exact ⟨o, e b o h⟩
theorem Mem.new {S : Addr → Prop} {H : Hp} {p : Addr} (m : Mem S H) (h : H p = none) : ¬ S p := fun s => by
  obtain ⟨o, e⟩ := m p s
  rw [h] at e; cases e
/-- nothing is tracked -/
def H0 : Hp := fun _ => none
/-- a list, a tuple: none of the mutable ones, or of the written part -/
def SL (K : PySem.W.Frag) (S : Addr → Prop) (H : Hp) (a : Addr) (xs : List V) : Prop := H a = some (.lst xs) ∧ ¬ S a
def ST (K : PySem.W.Frag) (S : Addr → Prop) (H : Hp) (a : Addr) (xs : List V) : Prop := (Rd H a (.tup xs) ∧ ¬ S a) ∨ SqT K H0 a xs
theorem rd0 {a : Addr} {u : HO} (h : Rd H0 a u) : False := by
  rcases h with h | ⟨o, h⟩
  · cases h
  · cases h
theorem SL.sq {K : PySem.W.Frag} {S : Addr → Prop} {H : Hp} {a : Addr} {xs : List V} (h : SL K S H a xs) : SqL K H a xs := .inl (.inl h.1)
theorem ST.sq {K : PySem.W.Frag} {S : Addr → Prop} {H : Hp} {a : Addr} {xs : List V} (h : ST K S H a xs) : SqT K H a xs := by
  rcases h with h | h | h
  · exact .inl h.1
  · exact (rd0 h).elim
  · exact .inr h
mutual
inductive Rp (K : PySem.W.Frag) (S : Addr → Prop) (H : Hp) : V → D → Prop where
  | non : Rp K S H .non .non
  | bl (b : Bool) : Rp K S H (.bl b) (.bl b)
  | int (i : Int) : Rp K S H (.int i) (.int i)
  | str (x : Str) : Rp K S H (.str x) (.str x)
  | lst {a : Addr} {xs : List V} {ds : List D} : SL K S H a xs → RpA K S H xs ds → Rp K S H (.ref a) (.lst ds)
  | tup {a : Addr} {xs : List V} {ds : List D} : ST K S H a xs → RpA K S H xs ds → Rp K S H (.ref a) (.tup ds)
  | dic {a : Addr} {kvs : List (Key × V)} : H a = some (.dK kvs) → ¬ S a → Rp K S H (.ref a) .dic
  | ins {a C dx : Addr} {fs : List (Str × V)} : H a = some (.ins C dx fs) → ¬ S a → Rp K S H (.ref a) (.ins C)
inductive RpA (K : PySem.W.Frag) (S : Addr → Prop) (H : Hp) : List V → List D → Prop where
  | nil : RpA K S H [] []
  | cons {v : V} {d : D} {vs : List V} {ds : List D} : Rp K S H v d → RpA K S H vs ds → RpA K S H (v :: vs) (d :: ds)
end
/-- all but the mutable ones stay -/
def ExS (S : Addr → Prop) (H H' : Hp) : Prop := (∀ a o, ¬ S a → H a = some o → H' a = some o) ∧ ∀ a, S a → ∃ o, H' a = some o
theorem ExS.of {S : Addr → Prop} {H H' : Hp} (m : Mem S H) (e : Ex H H') : ExS S H H' := ⟨fun a o _ h => e a o h, m.ex e⟩
theorem ExS.refl {S : Addr → Prop} {H : Hp} (m : Mem S H) : ExS S H H := .of m (Evl.Ex.refl H)
theorem ExS.trans {S : Addr → Prop} {H H1 H2 : Hp} (a : ExS S H H1) (b : ExS S H1 H2) : ExS S H H2 := ⟨fun x o n h => b.1 x o n (a.1 x o n h), b.2⟩
theorem ExS.mem {S : Addr → Prop} {H H' : Hp} (a : ExS S H H') : Mem S H' := a.2
section
variable {K : PySem.W.Frag} {S : Addr → Prop} {H H' : Hp}
theorem rd_mono {a : Addr} {u : HO} (e : ExS S H H') (n : ¬ S a) (h : Rd H a u) : Rd H' a u := by
  rcases h with h | ⟨o, h⟩
  · exact .inl (e.1 _ _ n h)
  · exact .inr ⟨o, e.1 _ _ n h⟩
theorem SL.mono {a : Addr} {xs : List V} (e : ExS S H H') (h : SL K S H a xs) : SL K S H' a xs := ⟨e.1 _ _ h.2 h.1, h.2⟩
theorem ST.mono {a : Addr} {xs : List V} (e : ExS S H H') (h : ST K S H a xs) : ST K S H' a xs := by
  rcases h with ⟨h, n⟩ | h
  · exact .inl ⟨rd_mono e n h, n⟩
  · exact .inr h
mutual
theorem Rp.mono (e : ExS S H H') : ∀ {d : D} {v : V}, Rp K S H v d → Rp K S H' v d
  | .non, _, h => by cases h; exact .non
  | .bl b, _, h => by cases h; exact .bl b
  | .int i, _, h => by cases h; exact .int i
  | .str x, _, h => by cases h; exact .str x
  | .lst ds, _, h => by
    cases h with
    | lst h1 h2 => exact .lst (h1.mono e) (RpA.mono e h2)
  | .tup ds, _, h => by
    cases h with
    | tup h1 h2 => exact .tup (h1.mono e) (RpA.mono e h2)
  | .dic, _, h => by
    cases h with
    | dic h1 h2 => exact .dic (e.1 _ _ h2 h1) h2
  | .ins C, _, h => by
    cases h with
    | ins h1 h2 => exact .ins (e.1 _ _ h2 h1) h2
theorem RpA.mono (e : ExS S H H') : ∀ {ds : List D} {vs : List V}, RpA K S H vs ds → RpA K S H' vs ds
  | [], _, h => by cases h; exact .nil
  | d :: ds, _, h => by
    cases h with
    | cons h1 h2 => exact .cons (Rp.mono e h1) (RpA.mono e h2)
end
theorem RpA.length : ∀ {ds : List D} {vs : List V}, RpA K S H vs ds → vs.length = ds.length
  | _, _, .nil => rfl
  | _, _, .cons _ t => congrArg (· + 1) (RpA.length t)
theorem RpA.get : ∀ {ds : List D} {vs : List V} {i : Nat} {d : D}, RpA K S H vs ds → ds[i]? = some d → ∃ v, vs[i]? = some v ∧ Rp K S H v d
  | _, _, _, _, .nil, h => by cases h
  | _, _, 0, _, .cons r _, h => by
    cases h
    exact ⟨_, rfl, r⟩
  | _, _, i + 1, _, .cons _ t, h => by
    obtain ⟨v, h1, h2⟩ := RpA.get (i := i) t h
    exact ⟨v, h1, h2⟩
theorem RpA.getV : ∀ {ds : List D} {vs : List V} {i : Nat} {v : V}, RpA K S H vs ds → vs[i]? = some v → ∃ d, ds[i]? = some d ∧ Rp K S H v d
  | _, _, _, _, .nil, h => by cases h
  | _, _, 0, _, .cons r _, h => by
    cases h
    exact ⟨_, rfl, r⟩
  | _, _, i + 1, _, .cons _ t, h => by
    obtain ⟨v, h1, h2⟩ := RpA.getV (i := i) t h
    exact ⟨v, h1, h2⟩
theorem RpA.app : ∀ {ds es : List D} {vs ws : List V}, RpA K S H vs ds → RpA K S H ws es → RpA K S H (vs ++ ws) (ds ++ es)
  | _, _, _, _, .nil, h => h
  | _, _, _, _, .cons r t, h => .cons r (RpA.app t h)
theorem RpA.take : ∀ {ds : List D} {vs : List V} (n : Nat), RpA K S H vs ds → RpA K S H (vs.take n) (ds.take n)
  | _, _, 0, _ => by simp; exact .nil
  | _, _, _ + 1, .nil => by simp; exact .nil
  | _, _, n + 1, .cons r t => .cons r (RpA.take n t)
theorem RpA.drop : ∀ {ds : List D} {vs : List V} (n : Nat), RpA K S H vs ds → RpA K S H (vs.drop n) (ds.drop n)
  | _, _, 0, h => h
  | _, _, _ + 1, .nil => by simp; exact .nil
  | _, _, n + 1, .cons _ t => RpA.drop n t
theorem RpA.ints : ∀ {ns : List Int} {vs : List V}, RpA K S H vs (ns.map D.int) → vs = ns.map V.int
  | [], _, h => by cases h; rfl
  | n :: ns, _, h => by
    cases h with
    | cons r t =>
      cases r
      rw [RpA.ints t]
      rfl
theorem RpA.strs : ∀ {ns : List Str} {vs : List V}, RpA K S H vs (ns.map D.str) → vs = ns.map V.str
  | [], _, h => by cases h; rfl
  | n :: ns, _, h => by
    cases h with
    | cons r t =>
      cases r
      rw [RpA.strs t]
      rfl
theorem RpA.bools : ∀ {ns : List Bool} {vs : List V}, RpA K S H vs (ns.map D.bl) → vs = ns.map V.bl
  | [], _, h => by cases h; rfl
  | n :: ns, _, h => by
    cases h with
    | cons r t =>
      cases r
      rw [RpA.bools t]
      rfl
theorem rpA_strs : ∀ (ns : List Str), RpA K S H (ns.map V.str) (ns.map D.str)
  | [] => .nil
  | n :: ns => .cons (.str n) (rpA_strs ns)
theorem rpA_ints : ∀ (ns : List Int), RpA K S H (ns.map V.int) (ns.map D.int)
  | [] => .nil
  | n :: ns => .cons (.int n) (rpA_ints ns)
theorem rpA_bools : ∀ (ns : List Bool), RpA K S H (ns.map V.bl) (ns.map D.bl)
  | [] => .nil
  | n :: ns => .cons (.bl n) (rpA_bools ns)
/-- a new list, a new tuple -/
theorem Rp.newL {vs : List V} {ds : List D} {p : Addr} (m : Mem S H) (h : RpA K S H vs ds) (hp : H p = none) : Rp K S (upd H p (.lst vs)) (.ref p) (.lst ds) :=
  .lst ⟨upd_same, m.new hp⟩ (h.mono (.of m (Evl.Ex.new hp)))
theorem Rp.newT {vs : List V} {ds : List D} {p : Addr} (m : Mem S H) (h : RpA K S H vs ds) (hp : H p = none) : Rp K S (upd H p (.tup vs)) (.ref p) (.tup ds) :=
  .tup (.inl ⟨.inl upd_same, m.new hp⟩) (h.mono (.of m (Evl.Ex.new hp)))
/-! ### the type -/
end
/-- what isinstance asks of the classes of one's own that values have -/
def typ : D → Value
  | .non => .type "NoneType"
  | .bl _ => .type "bool"
  | .int _ => .type "int"
  | .str _ => .type "str"
  | .lst _ => .type "list"
  | .tup _ => .type "tuple"
  | .dic => .type "dict"
  | .ins C => .ref C
structure InsC (K : PySem.W.Frag) (C : Addr) : Prop where
  cl : Cls K C
  ha : PySem.W.findIn K (.ref C) "__class__" = some (some (.builtin "object.__class__"))
  hn : PySem.W.specialIn K (.builtin "object.__class__") "__get__" = some (some (.builtin "getset_descriptor.__get__"))
  ht : PySem.W.takesIn K (.builtin "object.__class__") = some true
  hm : PySem.W.mroIn K C (.type "object") = some true
def okT (K : PySem.W.Frag) : D → Prop
  | .ins C => InsC K C
  | _ => True
theorem Rp.ty {K : PySem.W.Frag} {S : Addr → Prop} {H : Hp} {v : V} {d : D} (h : Rp K S H v d) (o : okT K d) : TyX K H v (typ d) := by
  cases h with
  | non => exact .base .non
  | bl b => exact .base (.bl b)
  | int i => exact .base (.int i)
  | str x => exact .base (.str x)
  | lst h1 _ => exact .base (.lst h1.1)
  | tup h1 _ =>
    rcases h1 with ⟨h1 | ⟨o, h1⟩, _⟩ | h1 | ⟨o, its, n, h1, h2, _⟩
    · exact .base (.tup h1)
    · exact .fTuple h1
    · exact (rd0 h1).elim
    · exact .kTuple h1 h2
  | dic h1 _ => exact .base (.dK h1)
  | ins h1 _ => exact .base (.ins h1 o.cl o.ha o.hn o.ht o.hm)
end Nv
set_option Elab.async false
set_option linter.all false
set_option maxRecDepth 100000
set_option maxHeartbeats 4000000
/-! What a reading gives, as data; nothing that stood is changed. -/
namespace Nv
open PySem L2 StX
def EvD (K : PySem.W.Frag) (S : Addr → Prop) (te : TE) (σ : L2.St) (H : Hp) (d : D) : Prop := ∀ H1, Ex H H1 → ∀ Q : VK, (∀ v H2, Ex H1 H2 → Rp K S H2 v d → Q v H2) → te σ H1 Q
def EvA (K : PySem.W.Frag) (S : Addr → Prop) (ta : TA) (σ : L2.St) (H : Hp) (ds : List D) : Prop := ∀ H1, Ex H H1 → ∀ Q : List V → Hp → Prop, (∀ vs H2, Ex H1 H2 → RpA K S H2 vs ds → Q vs H2) → ta σ H1 Q
def EvB (tt : TT) (σ : L2.St) (H : Hp) (b : Bool) : Prop := ∀ H1, Ex H H1 → ∀ Q : Bool → Hp → Prop, (∀ H2, Ex H1 H2 → Q b H2) → tt σ H1 Q
def EvO (to : TO) (σ : L2.St) (H : Hp) (o : Option Int) : Prop := ∀ H1, Ex H H1 → ∀ Q : Option Int → Hp → Prop, (∀ H2, Ex H1 H2 → Q o H2) → to σ H1 Q
/-- a rule on two values, on one value, on a list of values -/
def R2D (K : PySem.W.Frag) (S : Addr → Prop) (r : R2) (H : Hp) (d1 d2 d : D) : Prop := ∀ H1, Ex H H1 → ∀ x y, Rp K S H1 x d1 → Rp K S H1 y d2 → ∀ Q : VK, (∀ v H2, Ex H1 H2 → Rp K S H2 v d → Q v H2) → r x y H1 Q
def RAD (K : PySem.W.Frag) (S : Addr → Prop) (r : List V → Hp → VK → Prop) (H : Hp) (ds : List D) (d : D) : Prop := ∀ H1, Ex H H1 → ∀ vs, RpA K S H1 vs ds → ∀ Q : VK, (∀ v H2, Ex H1 H2 → Rp K S H2 v d → Q v H2) → r vs H1 Q
section
variable {K : PySem.W.Frag} {S : Addr → Prop} {σ : L2.St} {H H' : Hp} {te ta tb tx : TE} {t u : TT} {d d1 d2 : D}
theorem EvD.mono (e : Ex H H') (h : EvD K S te σ H d) : EvD K S te σ H' d := fun H1 a Q q => h H1 (e.trans a) Q q
theorem EvA.mono {ta : TA} {ds : List D} (e : Ex H H') (h : EvA K S ta σ H ds) : EvA K S ta σ H' ds := fun H1 a Q q => h H1 (e.trans a) Q q
theorem EvB.mono {b : Bool} (e : Ex H H') (h : EvB t σ H b) : EvB t σ H' b := fun H1 a Q q => h H1 (e.trans a) Q q
theorem EvD.is (h : EvD K S te σ H d) (e : d = d1) : EvD K S te σ H d1 := e ▸ h
theorem EvB.is {b c : Bool} (h : EvB t σ H b) (e : b = c) : EvB t σ H c := e ▸ h
theorem ev_var {i : Nat} {v : V} (m : Mem S H) (h : σ[i]? = some (some v)) (r : Rp K S H v d) : EvD K S (tVar i) σ H d := fun H1 e Q q => ⟨v, h, q v H1 (Evl.Ex.refl _) (r.mono (.of m e))⟩
theorem ev_int {i : Int} : EvD K S (tC (.int i)) σ H (.int i) := fun H1 _ _ q => q _ H1 (Evl.Ex.refl _) (.int i)
theorem ev_str {i : Str} : EvD K S (tC (.str i)) σ H (.str i) := fun H1 _ _ q => q _ H1 (Evl.Ex.refl _) (.str i)
theorem ev_bl {i : Bool} : EvD K S (tC (.bl i)) σ H (.bl i) := fun H1 _ _ q => q _ H1 (Evl.Ex.refl _) (.bl i)
theorem ev_non : EvD K S (tC .non) σ H .non := fun H1 _ _ q => q _ H1 (Evl.Ex.refl _) .non
theorem ev_c {v : V} (r : ∀ H1, Rp K S H1 v d) : EvD K S (tC v) σ H d := fun H1 _ _ q => q _ H1 (Evl.Ex.refl _) (r H1)
theorem ea_nil : EvA K S tNil σ H [] := fun H1 _ _ q => q [] H1 (Evl.Ex.refl _) .nil
theorem ea_cons {tr : TA} {ds : List D} (m : Mem S H) (h : EvD K S te σ H d) (hr : EvA K S tr σ H ds) : EvA K S (tCons te tr) σ H (d :: ds) := fun H1 e Q q =>
  h H1 e _ fun v H2 e2 r2 => hr H2 (e.trans e2) _ fun vs H3 e3 r3 => q _ H3 (e2.trans e3) (.cons (r2.mono (.of (m.ex (e.trans e2)) e3)) r3)
theorem ea_star {tr : TA} {ds es : List D} (m : Mem S H) (h : EvD K S te σ H (.lst ds)) (hr : EvA K S tr σ H es) : EvA K S (tStar K te tr) σ H (ds ++ es) := fun H1 e Q q =>
  h H1 e _ fun v H2 e2 r2 => by
    cases r2 with
    | @lst a xs _ h1 h2 =>
      exact ⟨a, xs, rfl, .inr h1.sq, hr H2 (e.trans e2) _ fun vs H3 e3 r3 => q _ H3 (e2.trans e3) ((h2.mono (.of (m.ex (e.trans e2)) e3)).app r3)⟩
theorem ea_starT {tr : TA} {ds es : List D} (m : Mem S H) (h : EvD K S te σ H (.tup ds)) (hr : EvA K S tr σ H es) : EvA K S (tStar K te tr) σ H (ds ++ es) := fun H1 e Q q =>
  h H1 e _ fun v H2 e2 r2 => by
    cases r2 with
    | @tup a xs _ h1 h2 =>
      exact ⟨a, xs, rfl, .inl h1.sq, hr H2 (e.trans e2) _ fun vs H3 e3 r3 => q _ H3 (e2.trans e3) ((h2.mono (.of (m.ex (e.trans e2)) e3)).app r3)⟩
theorem small {n : Nat} (h : n ≤ 100000) : n ≤ sizeLine := Nat.le_trans h (by decide)
theorem ev_tup {ta : TA} {ds : List D} (m : Mem S H) (h : EvA K S ta σ H ds) (hl : ds.length ≤ 100000) : EvD K S (tTup ta) σ H (.tup ds) := fun H1 e Q q =>
  h H1 e _ fun vs H2 e2 r2 => ⟨small (by rw [r2.length]; exact hl), fun p hp => q _ _ (e2.trans (Evl.Ex.new hp)) (.newT (m.ex (e.trans e2)) r2 hp)⟩
theorem ev_lst {ta : TA} {ds : List D} (m : Mem S H) (h : EvA K S ta σ H ds) (hl : ds.length ≤ 100000) : EvD K S (tLst ta) σ H (.lst ds) := fun H1 e Q q =>
  h H1 e _ fun vs H2 e2 r2 => ⟨small (by rw [r2.length]; exact hl), fun p hp => q _ _ (e2.trans (Evl.Ex.new hp)) (.newL (m.ex (e.trans e2)) r2 hp)⟩
theorem ev_op {r : R2} (m : Mem S H) (h1 : EvD K S ta σ H d1) (h2 : EvD K S tb σ H d2) (hr : R2D K S r H d1 d2 d) : EvD K S (tOp r ta tb) σ H d := fun H1 e Q q =>
  h1 H1 e _ fun x H2 e2 r2 => h2 H2 (e.trans e2) _ fun y H3 e3 r3 => hr H3 ((e.trans e2).trans e3) x y (r2.mono (.of (m.ex (e.trans e2)) e3)) r3 Q fun v H4 e4 r4 => q v H4 ((e2.trans e3).trans e4) r4
theorem ev_cb {r : List V → Hp → VK → Prop} {ta : TA} {ds : List D} (h : EvA K S ta σ H ds) (hr : RAD K S r H ds d) : EvD K S (tCB r ta) σ H d := fun H1 e Q q =>
  h H1 e _ fun vs H2 e2 r2 => hr H2 (e.trans e2) vs r2 Q fun v H3 e3 r3 => q v H3 (e2.trans e3) r3
theorem ev_call {sp : Sp} {E : XK} {ta : TA} {ds : List D} (h : EvA K S ta σ H ds) (hr : RAD K S (fun vs H Q => sp (vs ++ []) H Q E) H ds d) : EvD K S (tCall sp [] E ta) σ H d := fun H1 e Q q =>
  h H1 e _ fun vs H2 e2 r2 => hr H2 (e.trans e2) vs r2 Q fun v H3 e3 r3 => q v H3 (e2.trans e3) r3
/-! ### rules on values -/
theorem r_I0 {g : Int → Int → V} {i j : Int} (hd : ∀ H, Rp K S H (g i j) d) : R2D K S (rI0 g) H (.int i) (.int j) d := fun H1 _ x y rx ry Q q => by
  cases rx; cases ry
  exact ⟨i, j, rfl, rfl, q _ H1 (Evl.Ex.refl _) (hd H1)⟩
theorem r_I {C : Int → Int → Prop} {g : Int → Int → V} {i j : Int} (hc : C i j) (hd : ∀ H, Rp K S H (g i j) d) : R2D K S (rI C g) H (.int i) (.int j) d := fun H1 _ x y rx ry Q q => by
  cases rx; cases ry
  exact ⟨i, j, rfl, rfl, hc, q _ H1 (Evl.Ex.refl _) (hd H1)⟩
theorem r_add {i j : Int} : R2D K S (rI0 fun i j => .int (i + j)) H (.int i) (.int j) (.int (i + j)) := r_I0 fun _ => .int _
theorem r_sub {i j : Int} : R2D K S (rI0 fun i j => .int (i - j)) H (.int i) (.int j) (.int (i - j)) := r_I0 fun _ => .int _
theorem r_lt {i j : Int} : R2D K S (rI0 fun i j => .bl (decide (i < j))) H (.int i) (.int j) (.bl (decide (i < j))) := r_I0 fun _ => .bl _
theorem r_le {i j : Int} : R2D K S (rI0 fun i j => .bl (decide (i ≤ j))) H (.int i) (.int j) (.bl (decide (i ≤ j))) := r_I0 fun _ => .bl _
theorem r_gt {i j : Int} : R2D K S (rI0 fun i j => .bl (decide (j < i))) H (.int i) (.int j) (.bl (decide (j < i))) := r_I0 fun _ => .bl _
theorem r_ge {i j : Int} : R2D K S (rI0 fun i j => .bl (decide (j ≤ i))) H (.int i) (.int j) (.bl (decide (j ≤ i))) := r_I0 fun _ => .bl _
theorem r_eqI {i j : Int} : R2D K S rEq H (.int i) (.int j) (.bl (decide (i = j))) := fun H1 _ x y rx ry Q q => by
  cases rx; cases ry
  refine ⟨rfl, q _ H1 (Evl.Ex.refl _) ?_⟩
  rw [dec_int, Bool.beq_eq_decide_eq]
  exact .bl _
theorem r_neI {i j : Int} : R2D K S rNe H (.int i) (.int j) (.bl (!decide (i = j))) := fun H1 _ x y rx ry Q q => by
  cases rx; cases ry
  refine ⟨rfl, q _ H1 (Evl.Ex.refl _) ?_⟩
  rw [dec_int, Bool.beq_eq_decide_eq]
  exact .bl _
theorem r_eqS {i j : Str} : R2D K S rEq H (.str i) (.str j) (.bl (decide (i = j))) := fun H1 _ x y rx ry Q q => by
  cases rx; cases ry
  refine ⟨rfl, q _ H1 (Evl.Ex.refl _) ?_⟩
  rw [dec_str, Bool.beq_eq_decide_eq]
  exact .bl _
theorem r_neS {i j : Str} : R2D K S rNe H (.str i) (.str j) (.bl (!decide (i = j))) := fun H1 _ x y rx ry Q q => by
  cases rx; cases ry
  refine ⟨rfl, q _ H1 (Evl.Ex.refl _) ?_⟩
  rw [dec_str, Bool.beq_eq_decide_eq]
  exact .bl _
def D.isNon : D → Bool
  | .non => true
  | _ => false
theorem Rp.non_iff {v : V} (r : Rp K S H v d) : decide (v = .non) = d.isNon := by cases r <;> rfl
theorem r_isN : R2D K S (fun x y H Q => y = .non ∧ Q (.bl (decide (x = .non))) H) H d .non (.bl d.isNon) := fun H1 _ x y rx ry Q q => by
  cases ry
  refine ⟨rfl, q _ H1 (Evl.Ex.refl _) ?_⟩
  rw [rx.non_iff]
  exact .bl _
theorem r_notN : R2D K S (fun x y H Q => y = .non ∧ Q (.bl (!decide (x = .non))) H) H d .non (.bl (!d.isNon)) := fun H1 _ x y rx ry Q q => by
  cases ry
  refine ⟨rfl, q _ H1 (Evl.Ex.refl _) ?_⟩
  rw [rx.non_iff]
  exact .bl _
/-! ### isinstance -/
theorem r_isi {n : String} {b : Bool} {te : TE} (h : EvD K S te σ H d) (o : okT K d) (hk : PySem.W.kitOne K (typ d) (.type n) = some b) : EvD K S (tCB (rIsi K) (tCons te (tCons (tC (.ty n)) tNil))) σ H (.bl b) := fun H1 e Q q =>
  h H1 e _ fun v H2 e2 r2 => ⟨v, .ty n, typ d, .type n, b, rfl, .ty n, r2.ty o, hk, q _ H2 e2 (.bl b)⟩
theorem r_isiC {C : Addr} {b : Bool} {te : TE} (h : EvD K S te σ H d) (o : okT K d) (hk : PySem.W.kitOne K (typ d) (.ref C) = some b) : EvD K S (tCB (rIsi K) (tCons te (tCons (tC (.ref C)) tNil))) σ H (.bl b) := fun H1 e Q q =>
  h H1 e _ fun v H2 e2 r2 => ⟨v, .ref C, typ d, .ref C, b, rfl, .own C, r2.ty o, hk, q _ H2 e2 (.bl b)⟩
theorem r_isiLT {b : Bool} {te : TE} (m : Mem S H) (h : EvD K S te σ H d) (o : okT K d) (hk : PySem.W.kitAny K (typ d) [.type "list", .type "tuple"] = some b) :
    EvD K S (tCB (rIsiT K) (tCons te (tCons (tTup (tCons (tC (.ty "list")) (tCons (tC (.ty "tuple")) tNil))) tNil))) σ H (.bl b) := fun H1 e Q q =>
  h H1 e _ fun v H2 e2 r2 => ⟨small (by decide), fun p hp => ⟨v, p, [.ty "list", .ty "tuple"], typ d, [.type "list", .type "tuple"], b, rfl, upd_same, .cons (.ty _) (.cons (.ty _) .nil), (r2.mono (.of (m.ex (e.trans e2)) (Evl.Ex.new hp))).ty o, hk, q _ _ (e2.trans (Evl.Ex.new hp)) (.bl b)⟩⟩
def D.isInt : D → Bool
  | .int _ => true
  | .bl _ => true
  | _ => false
def D.isBool : D → Bool
  | .bl _ => true
  | _ => false
def D.isStr : D → Bool
  | .str _ => true
  | _ => false
def D.isLT : D → Bool
  | .lst _ => true
  | .tup _ => true
  | _ => false
def D.isL : D → Bool
  | .lst _ => true
  | _ => false
/-- no instance of an own class -/
def D.base : D → Bool
  | .ins _ => false
  | _ => true
theorem ki_int (h : d.base = true) : PySem.W.kitOne K (typ d) (.type "int") = some d.isInt := by
  cases d with
  | ins C => cases h
  | non => exact kit_ty (r := false) (by decide +kernel)
  | bl _ => exact kit_ty (r := true) (by decide +kernel)
  | int _ => exact kit_ty (r := true) (by decide +kernel)
  | str _ => exact kit_ty (r := false) (by decide +kernel)
  | lst _ => exact kit_ty (r := false) (by decide +kernel)
  | tup _ => exact kit_ty (r := false) (by decide +kernel)
  | dic => exact kit_ty (r := false) (by decide +kernel)
theorem ki_bool (h : d.base = true) : PySem.W.kitOne K (typ d) (.type "bool") = some d.isBool := by
  cases d with
  | ins C => cases h
  | non => exact kit_ty (r := false) (by decide +kernel)
  | bl _ => exact kit_ty (r := true) (by decide +kernel)
  | int _ => exact kit_ty (r := false) (by decide +kernel)
  | str _ => exact kit_ty (r := false) (by decide +kernel)
  | lst _ => exact kit_ty (r := false) (by decide +kernel)
  | tup _ => exact kit_ty (r := false) (by decide +kernel)
  | dic => exact kit_ty (r := false) (by decide +kernel)
theorem ki_str (h : d.base = true) : PySem.W.kitOne K (typ d) (.type "str") = some d.isStr := by
  cases d with
  | ins C => cases h
  | non => exact kit_ty (r := false) (by decide +kernel)
  | bl _ => exact kit_ty (r := false) (by decide +kernel)
  | int _ => exact kit_ty (r := false) (by decide +kernel)
  | str _ => exact kit_ty (r := true) (by decide +kernel)
  | lst _ => exact kit_ty (r := false) (by decide +kernel)
  | tup _ => exact kit_ty (r := false) (by decide +kernel)
  | dic => exact kit_ty (r := false) (by decide +kernel)
theorem ki_list (h : d.base = true) : PySem.W.kitOne K (typ d) (.type "list") = some d.isL := by
  cases d with
  | ins C => cases h
  | non => exact kit_ty (r := false) (by decide +kernel)
  | bl _ => exact kit_ty (r := false) (by decide +kernel)
  | int _ => exact kit_ty (r := false) (by decide +kernel)
  | str _ => exact kit_ty (r := false) (by decide +kernel)
  | lst _ => exact kit_ty (r := true) (by decide +kernel)
  | tup _ => exact kit_ty (r := false) (by decide +kernel)
  | dic => exact kit_ty (r := false) (by decide +kernel)
theorem ki_LT (h : d.base = true) : PySem.W.kitAny K (typ d) [.type "list", .type "tuple"] = some d.isLT := by
  have nilE : ∀ t, PySem.W.kitAny K t [] = some false := fun _ => rfl
  cases d with
  | lst xs => exact kitAny_cons (b := true) (kit_ty (by decide +kernel)) (fun z => nomatch z) fun _ => rfl
  | tup xs => exact kitAny_cons (b := false) (kit_ty (by decide +kernel)) (fun _ => kitAny_cons (b := true) (kit_ty (by decide +kernel)) (fun z => nomatch z) fun _ => rfl) fun z => nomatch z
  | ins C => cases h
  | non => exact kitAny_cons (b := false) (kit_ty (by decide +kernel)) (fun _ => kitAny_cons (b := false) (kit_ty (by decide +kernel)) (fun _ => nilE _) fun z => nomatch z) fun z => nomatch z
  | bl _ => exact kitAny_cons (b := false) (kit_ty (by decide +kernel)) (fun _ => kitAny_cons (b := false) (kit_ty (by decide +kernel)) (fun _ => nilE _) fun z => nomatch z) fun z => nomatch z
  | int _ => exact kitAny_cons (b := false) (kit_ty (by decide +kernel)) (fun _ => kitAny_cons (b := false) (kit_ty (by decide +kernel)) (fun _ => nilE _) fun z => nomatch z) fun z => nomatch z
  | str _ => exact kitAny_cons (b := false) (kit_ty (by decide +kernel)) (fun _ => kitAny_cons (b := false) (kit_ty (by decide +kernel)) (fun _ => nilE _) fun z => nomatch z) fun z => nomatch z
  | dic => exact kitAny_cons (b := false) (kit_ty (by decide +kernel)) (fun _ => kitAny_cons (b := false) (kit_ty (by decide +kernel)) (fun _ => nilE _) fun z => nomatch z) fun z => nomatch z
theorem okT_base (h : d.base = true) : okT K d := by cases d <;> first | trivial | cases h
/-! ### truth -/
theorem eb_T {b : Bool} (h : EvD K S te σ H (.bl b)) : EvB (tTest te) σ H b := fun H1 e Q q => h H1 e _ fun v H2 e2 r2 => by cases r2; exact ⟨b, rfl, q H2 e2⟩
theorem eb_B {b : Bool} (h : EvD K S te σ H (.bl b)) : EvB (tB te) σ H b := fun H1 e Q q => h H1 e _ fun v H2 e2 r2 => by cases r2; exact ⟨b, rfl, q H2 e2⟩
theorem eb_and {a b : Bool} (h1 : EvB t σ H a) (h2 : a = true → EvB u σ H b) : EvB (tAnd t u) σ H (a && b) := fun H1 e Q q => h1 H1 e _ fun H2 e2 => by
  cases a with
  | true => exact h2 rfl H2 (e.trans e2) Q fun H3 e3 => q H3 (e2.trans e3)
  | false => exact q H2 e2
theorem eb_or {a b : Bool} (h1 : EvB t σ H a) (h2 : a = false → EvB u σ H b) : EvB (tOr t u) σ H (a || b) := fun H1 e Q q => h1 H1 e _ fun H2 e2 => by
  cases a with
  | false => exact h2 rfl H2 (e.trans e2) Q fun H3 e3 => q H3 (e2.trans e3)
  | true => exact q H2 e2
theorem eb_not {a : Bool} (h1 : EvB t σ H a) : EvB (tNot t) σ H (!a) := fun H1 e Q q => h1 H1 e _ fun H2 e2 => q H2 e2
theorem ev_and {a b : Bool} (h1 : EvD K S ta σ H (.bl a)) (h2 : a = true → EvD K S tb σ H (.bl b)) : EvD K S (tAndV ta tb) σ H (.bl (a && b)) := fun H1 e Q q => h1 H1 e _ fun v H2 e2 r2 => by
  cases r2
  refine ⟨a, rfl, ?_⟩
  cases a with
  | true => exact h2 rfl H2 (e.trans e2) Q fun v H3 e3 r3 => q v H3 (e2.trans e3) r3
  | false => exact q _ H2 e2 (.bl _)
theorem ev_or {a b : Bool} (h1 : EvD K S ta σ H (.bl a)) (h2 : a = false → EvD K S tb σ H (.bl b)) : EvD K S (tOrV ta tb) σ H (.bl (a || b)) := fun H1 e Q q => h1 H1 e _ fun v H2 e2 r2 => by
  cases r2
  refine ⟨a, rfl, ?_⟩
  cases a with
  | false => exact h2 rfl H2 (e.trans e2) Q fun v H3 e3 r3 => q v H3 (e2.trans e3) r3
  | true => exact q _ H2 e2 (.bl _)
theorem ev_not {a : Bool} (h1 : EvD K S ta σ H (.bl a)) : EvD K S (tNotV ta) σ H (.bl (!a)) := fun H1 e Q q => h1 H1 e _ fun v H2 e2 r2 => by
  cases r2
  exact ⟨a, rfl, q _ H2 e2 (.bl _)⟩
theorem ev_if {b : Bool} (h : EvB t σ H b) (h1 : b = true → EvD K S ta σ H d) (h2 : b = false → EvD K S tb σ H d) : EvD K S (tIf t ta tb) σ H d := fun H1 e Q q => h H1 e _ fun H2 e2 => by
  cases b with
  | true => exact h1 rfl H2 (e.trans e2) Q fun v H3 e3 r3 => q v H3 (e2.trans e3) r3
  | false => exact h2 rfl H2 (e.trans e2) Q fun v H3 e3 r3 => q v H3 (e2.trans e3) r3
/-- a < b < c -/
theorem ev_chain {r r' : R2} {d3 : D} {a b : Bool} (m : Mem S H) (h1 : EvD K S ta σ H d1) (h2 : EvD K S tb σ H d2) (hr : R2D K S r H d1 d2 (.bl a)) (h3 : a = true → EvD K S tx σ H d3) (hr' : a = true → R2D K S r' H d2 d3 (.bl b)) : EvD K S (tChain r r' ta tb tx) σ H (.bl (a && b)) := fun H1 e Q q =>
  h1 H1 e _ fun x H2 e2 r2 => h2 H2 (e.trans e2) _ fun y H3 e3 r3 => hr H3 ((e.trans e2).trans e3) x y (r2.mono (.of (m.ex (e.trans e2)) e3)) r3 _ fun v H4 e4 r4 => by
    cases r4
    refine ⟨a, rfl, ?_⟩
    have ee := ((e.trans e2).trans e3).trans e4
    cases a with
    | false => exact q _ H4 ((e2.trans e3).trans e4) (.bl _)
    | true => exact h3 rfl H4 ee _ fun z H5 e5 r5 => hr' rfl H5 (ee.trans e5) y z (r3.mono (.of (m.ex ((e.trans e2).trans e3)) (e4.trans e5))) r5 Q fun v H6 e6 r6 => q v H6 (((e2.trans e3).trans e4).trans (e5.trans e6)) r6
end
end Nv
set_option Elab.async false
set_option linter.all false
set_option maxRecDepth 100000
set_option maxHeartbeats 4000000
/-! What is walked: lists, tuples, texts; enumerate and zip of them; enumerate of a zip. -/
namespace NvZ
open PySem
/-- a zip, its pair out or not -/
abbrev ZipA (h : Heap) (z TI TO : Addr) (f0 : Value) (b : Bool) : Prop :=
  h.get? z = some { cls := .type "zip", dict := none, data := .fields #[f0, .bool b, .bool false, .ref TI, .ref TO], slots := #[] }
def Zf (v : Value) : Prop := v = .none ∨ ∃ T : Addr, v = rawInt T
section
variable {prog : Program} {w : World} {A : Around} {E : Value → Shared → Prop} {s : Shared} {z TI TO i1 i2 : Addr} {fp1 fp2 : List Addr} {n1 n2 i : Nat} {P1 P2 : Nat → Value → Prop} {St1 St2 : Nat → Heap → Prop} {a1 a2 f0 : Value} {b : Bool}
theorem alive_any {a : Addr} {Q : Option Obj → Shared → Prop} (h : Q (s.heap.get? a) s) : wpAny (model prog w) A (loadIfAlive a) Q E s := fun _ _ _ => h
theorem zip_isfree {Q : Bool → Shared → Prop} (hz : ZipA s.heap z TI TO f0 b) (hf : Zf f0) (h : ∀ fr b' h', ZipA h' z TI TO f0 b' → Heap.SameBut z s.heap h' → Q fr { s with heap := h' }) :
    wpAny (model prog w) A (Builtin.SmallTypes.ownedTupleIsFree (.ref z)) Q E s := by
  unfold Builtin.SmallTypes.ownedTupleIsFree
  rcases hf with rfl | ⟨T, rfl⟩
  · exact wpAny_bind (wpAny_field hz rfl (x := .none) rfl (wpAny_pure (h true b s.heap hz (Heap.SameBut.refl _ _))))
  · refine wpAny_bind (wpAny_field hz rfl (x := rawInt T) rfl ?_)
    show wpAny _ _ (loadIfAlive ((T : Int).toNat) >>= _) _ _ _
    rw [Int.toNat_natCast]
    refine wpAny_bind (alive_any ?_)
    cases hT : s.heap.get? T with
    | none =>
      simp only [Option.isNone_none, if_true]
      exact wpAny_pure (h true b s.heap hz (Heap.SameBut.refl _ _))
    | some o =>
      simp only [Option.isNone_some, Bool.false_eq_true, if_false]
      refine wpAny_bind (wpAny_field hz rfl (x := .bool b) rfl ?_)
      cases b with
      | true =>
        rw [if_neg (show ¬ ((Value.bool true != Value.bool true) = true) from Bool.false_ne_true)]
        exact wpAny_pure (h false true s.heap hz (Heap.SameBut.refl _ _))
      | false =>
        rw [if_pos (show (Value.bool false != Value.bool true) = true from rfl)]
        exact wpAny_bind (wpAny_setField_rec hz (by simp) fun h₁ hz₁ hs₁ => wpAny_pure (h false true h₁ hz₁ hs₁))

theorem zip_next_item {Q : Value → Shared → Prop} (S : ZipSep2 z TI TO i1 i2 fp1 fp2) (D1 : Draws prog w A i1 fp1 n1 P1 St1) (D2 : Draws prog w A i2 fp2 n2 P2 St2)
    (hz : ZipA s.heap z TI TO f0 b) (hf : Zf f0) (hTI : IsTupOf2 s.heap TI (.ref i1) (.ref i2)) (hTO : IsTupOf2 s.heap TO a1 a2) (st1 : St1 i s.heap) (st2 : St2 i s.heap) (hlt1 : i < n1) (hlt2 : i < n2)
    (hQ : ∀ x1 x2 h' tk f0' b', P1 i x1 → P2 i x2 → ZipA h' z TI TO f0' b' → Zf f0' → (∃ a1 a2, IsTupOf2 h' TO a1 a2) → St1 (i + 1) h' → St2 (i + 1) h' → IsTupOf2 h' s.heap.objs.size x1 x2 → h'.objs.size = s.heap.objs.size + 1 →
      (∀ c o, c ≠ z → c ≠ TO → c ≠ i1 → c ≠ i2 → s.heap.get? c = some o → h'.get? c = some o) → Q (.ref s.heap.objs.size) { s with heap := h', toks := tk }) :
    wpAny (model prog w) A (Builtin.«zip.__next__» ⟨[.ref z], []⟩) (fun fin s' => ∃ v, fin = .done (.ret v) ∧ Q v s') E s := by
  obtain ⟨hp, g, d, tk0, os⟩ := s
  show wpAny _ _ (field (.ref z) 2 >>= _) _ _ _
  refine wpAny_bind (wpAny_field hz rfl (x := .bool false) rfl ?_)
  show wpAny _ _ (field (.ref z) 3 >>= _) _ _ _
  refine wpAny_bind (wpAny_field hz rfl (x := .ref TI) rfl ?_)
  refine wpAny_bind (wpAny_seqItems hTI rfl ?_)
  show wpAny _ _ (Builtin.SmallTypes.ownedTupleIsFree (.ref z) >>= _) _ _ _
  refine wpAny_bind (zip_isfree hz hf fun fr b' h0 hz' hs' => ?_)
  replace hs' : Heap.SameBut z hp h0 := hs'
  cases fr with
  | true =>
    simp only [if_true]
    refine wpAny_bind (wpAny_rule ?_)
    refine wpAny_bind (wpAny_field (s := ⟨h0, g, d, tk0, os⟩) hz' rfl (x := .ref TO) rfl ?_)
    refine wpAny_bind (wpAny_setField_rec (s := ⟨h0, g, d, tk0, os⟩) hz' (by simp) fun g0 hz0 hs0' => ?_)
    replace hz0 : ZipA g0 z TI TO .ellipsis b' := hz0
    have hs0 : Heap.SameBut z hp g0 := ⟨hs0'.1.trans hs'.1, fun c hc => (hs0'.2 c hc).trans (hs'.2 c hc)⟩
    refine wpAny_bind ?_
    simp only [List.zipIdx_cons, List.zipIdx_nil, List.forIn_cons, List.forIn_nil]
    refine wpAny_bind (wpAny_bind (wpAny_onRaise ?_))
    show wpAny _ _ (Builtin.SmallTypes.nextOf (.ref i1) >>= _) _ _ ⟨g0, g, d, tk0, os⟩
    refine wpAny_bind (D1.item i _ _ _ hlt1 (D1.over st1 hs0 S.zf1) fun x1 p1 tk1 hx1 sn1 hp1 => wpAny_pure ?_)
    replace hp1 : Heap.SameBut i1 g0 p1 := hp1
    have hU1 : IsTupOf2 p1 TO a1 a2 := hp1.extBut _ _ S.Ti1 (hs0.extBut _ _ S.TOz hTO)
    refine wpAny_bind (wpAny_seqItems (s := ⟨p1, g, d, tk1, os⟩) hU1 rfl ?_)
    refine wpAny_bind (updateSeq_IsTupOf2 (s := ⟨p1, g, d, tk1, os⟩) hU1 fun g1 hT1 hs1 => ?_)
    replace hT1 : IsTupOf2 g1 TO x1 a2 := hT1
    replace hs1 : Heap.SameBut TO p1 g1 := hs1
    refine wpAny_bind (wpAny_letGo (wpAny_pure ?_))
    refine wpAny_bind (wpAny_bind (wpAny_onRaise ?_))
    show wpAny _ _ (Builtin.SmallTypes.nextOf (.ref i2) >>= _) _ _ ⟨g1, g, d, tk1, os⟩
    refine wpAny_bind (D2.item i _ _ _ hlt2 (D2.over (D2.over (D2.over st2 hs0 S.zf2) hp1 S.sep1_2) hs1 S.Tf2) fun x2 p2 tk2 hx2 sn2 hp2 => wpAny_pure ?_)
    replace hp2 : Heap.SameBut i2 g1 p2 := hp2
    have hU2 : IsTupOf2 p2 TO x1 a2 := hp2.extBut _ _ S.Ti2 hT1
    refine wpAny_bind (wpAny_seqItems (s := ⟨p2, g, d, tk2, os⟩) hU2 rfl ?_)
    refine wpAny_bind (updateSeq_IsTupOf2 (s := ⟨p2, g, d, tk2, os⟩) hU2 fun g2 hT2 hs2 => ?_)
    replace hT2 : IsTupOf2 g2 TO x1 x2 := hT2
    replace hs2 : Heap.SameBut TO p2 g2 := hs2
    refine wpAny_bind (wpAny_letGo (wpAny_pure (wpAny_pure ?_)))
    refine wpAny_bind (wpAny_seqItems (s := ⟨g2, g, d, tk2, os⟩) hT2 rfl ?_)
    refine wpAny_bind (wpAny_newTuple ?_)
    have hsz : g2.objs.size = hp.objs.size := by rw [hs2.1, hp2.1, hs1.1, hp1.1, hs0.1]
    have hzz : ZipA g2 z TI TO .ellipsis b' := (hs2.extBut _ _ S.TOz.symm (hp2.extBut _ _ S.zi2 (hs1.extBut _ _ S.TOz.symm (hp1.extBut _ _ S.zi1 hz0))))
    have hkk : ∀ c o, c ≠ z → c ≠ TO → c ≠ i1 → c ≠ i2 → hp.get? c = some o → g2.get? c = some o := fun c o cz cT c1 c2 e =>
      (hs2.extBut _ _ cT (hp2.extBut _ _ c2 (hs1.extBut _ _ cT (hp1.extBut _ _ c1 (hs0.extBut _ _ cz e)))))
    have hj1 : St1 (i + 1) g2 := (D1.over (D1.over (D1.over sn1 hs1 S.Tf1) hp2 S.sep2_1) hs2 S.Tf1)
    have hj2 : St2 (i + 1) g2 := (D2.over sn2 hs2 S.Tf2)
    have hzlt : z < g2.objs.size := Heap.lt_size hzz
    show wpAny _ _ (Builtin.SmallTypes.ownedTupleHandOut (.ref z) (.ref g2.objs.size) >>= _) _ _ ⟨g2.push { cls := .type "tuple", data := .seq #[x1, x2] }, g, d, tk2, os⟩
    refine wpAny_bind ?_
    unfold Builtin.SmallTypes.ownedTupleHandOut
    have hz₆ : ZipA (g2.push { cls := .type "tuple", data := .seq #[x1, x2] }) z TI TO .ellipsis b' := Heap.get?_push_of_some _ hzz
    refine wpAny_bind (wpAny_setField_rec hz₆ (by simp) fun h₇ hz₇ hs₇ => ?_)
    replace hz₇ : ZipA h₇ z TI TO (rawInt g2.objs.size) b' := hz₇
    refine wpAny_setField_rec hz₇ (by simp) fun h₈ hz₈ hs₈ => ?_
    replace hz₈ : ZipA h₈ z TI TO (rawInt g2.objs.size) false := hz₈
    replace hs₇ : Heap.SameBut z (g2.push { cls := .type "tuple", data := .seq #[x1, x2] }) h₇ := hs₇
    replace hs₈ : Heap.SameBut z h₇ h₈ := hs₈
    have up : ∀ c o, c ≠ z → g2.get? c = some o → h₈.get? c = some o := fun c o c1 e => hs₈.extBut _ _ c1 (hs₇.extBut _ _ c1 (Heap.get?_push_of_some _ e))
    have hT₈ : IsTupOf2 h₈ g2.objs.size x1 x2 := hs₈.extBut _ _ (Nat.ne_of_gt hzlt) (hs₇.extBut _ _ (Nat.ne_of_gt hzlt) (Heap.get?_push_size _ rfl))
    have hz8 : h₈.objs.size = g2.objs.size + 1 := by rw [hs₈.1, hs₇.1, Heap.size_push]
    rw [hsz] at hz₈ hT₈ hz8
    refine wpAny_pure ⟨_, rfl, ?_⟩
    show Q (.ref g2.objs.size) ⟨h₈, g, d, tk2, os⟩
    rw [hsz]
    exact hQ x1 x2 h₈ tk2 _ _ hx1 hx2 hz₈ (.inr ⟨_, rfl⟩) ⟨_, _, up _ _ S.TOz hT2⟩ (D1.frame _ _ _ hj1 fun b hb o e => up b o (fun q => S.zf1 (q ▸ hb)) e) (D2.frame _ _ _ hj2 fun b hb o e => up b o (fun q => S.zf2 (q ▸ hb)) e) hT₈ hz8 fun c o cz cT c1 c2 e => up c o cz (hkk c o cz cT c1 c2 e)
  | false =>
    simp only [Bool.false_eq_true, if_false]
    refine wpAny_bind ?_
    rw [← Array.forIn_toList]
    simp only [List.forIn_cons, List.forIn_nil]
    refine wpAny_bind (wpAny_bind (wpAny_holding ?_))
    show wpAny _ _ (Builtin.SmallTypes.nextOf (.ref i1) >>= _) _ _ ⟨h0, g, d, tk0, os⟩
    refine wpAny_bind (D1.item i _ _ _ hlt1 (D1.over st1 hs' S.zf1) fun x1 p1 tk1 hx1 sn1 hp1 => wpAny_pure ?_)
    replace hp1 : Heap.SameBut i1 h0 p1 := hp1
    refine wpAny_pure ?_
    refine wpAny_bind (wpAny_bind (wpAny_holding ?_))
    show wpAny _ _ (Builtin.SmallTypes.nextOf (.ref i2) >>= _) _ _ ⟨p1, g, d, tk1, os⟩
    refine wpAny_bind (D2.item i _ _ _ hlt2 (D2.over (D2.over st2 hs' S.zf2) hp1 S.sep1_2) fun x2 p2 tk2 hx2 sn2 hp2 => wpAny_pure ?_)
    replace hp2 : Heap.SameBut i2 p1 p2 := hp2
    refine wpAny_pure (wpAny_pure ?_)
    show wpAny _ _ (newTuple [x1, x2] >>= _) _ _ ⟨p2, g, d, tk2, os⟩
    refine wpAny_bind (wpAny_newTuple ?_)
    have hsz : p2.objs.size = hp.objs.size := by rw [hp2.1, hp1.1, hs'.1]
    have hzz : ZipA p2 z TI TO f0 b' := hp2.extBut _ _ S.zi2 (hp1.extBut _ _ S.zi1 hz')
    have hkk : ∀ c o, c ≠ z → c ≠ i1 → c ≠ i2 → hp.get? c = some o → p2.get? c = some o := fun c o cz c1 c2 e => hp2.extBut _ _ c2 (hp1.extBut _ _ c1 (hs'.extBut _ _ cz e))
    have hj1 : St1 (i + 1) p2 := D1.over sn1 hp2 S.sep2_1
    have up : ∀ c o, p2.get? c = some o → (p2.push { cls := .type "tuple", data := .seq #[x1, x2] }).get? c = some o := fun c o e => Heap.get?_push_of_some _ e
    have hT8 : IsTupOf2 (p2.push { cls := .type "tuple", data := .seq #[x1, x2] }) p2.objs.size x1 x2 := Heap.get?_push_size _ rfl
    have hz8 : (p2.push { cls := .type "tuple", data := .seq #[x1, x2] }).objs.size = p2.objs.size + 1 := Heap.size_push ..
    refine wpAny_pure ⟨_, rfl, ?_⟩
    show Q (.ref p2.objs.size) _
    rw [hsz] at hT8 hz8
    rw [hsz]
    exact hQ x1 x2 _ tk2 f0 b' hx1 hx2 (up _ _ hzz) hf ⟨_, _, up _ _ (hkk _ _ S.TOz S.Ti1 S.Ti2 hTO)⟩ (D1.frame _ _ _ hj1 fun b hb o e => up b o e) (D2.frame _ _ _ sn2 fun b hb o e => up b o e) hT8 hz8 fun c o cz cT c1 c2 e => up c o (hkk c o cz c1 c2 e)

theorem zip_next_end {Q : Fin → Shared → Prop} (S : ZipSep2 z TI TO i1 i2 fp1 fp2) (D1 : Draws prog w A i1 fp1 n1 P1 St1) (D2 : Draws prog w A i2 fp2 n2 P2 St2)
    (hz : ZipA s.heap z TI TO f0 b) (hf : Zf f0) (hTI : IsTupOf2 s.heap TI (.ref i1) (.ref i2)) (hTO : IsTupOf2 s.heap TO a1 a2) (st1 : St1 i s.heap) (st2 : St2 i s.heap) (hle1 : i ≤ n1) (hle2 : i ≤ n2) (hend : i = n1 ∨ i = n2)
    (hE : ∀ h' tk e, (∀ c o, c ≠ z → c ≠ TO → c ≠ i1 → c ≠ i2 → s.heap.get? c = some o → h'.get? c = some o) → (∃ o, h'.get? e = some o ∧ o.cls = .type "StopIteration") → E (.ref e) { s with heap := h', toks := tk }) :
    wpAny (model prog w) A (Builtin.«zip.__next__» ⟨[.ref z], []⟩) Q E s := by
  obtain ⟨hp, g, d, tk0, os⟩ := s
  show wpAny _ _ (field (.ref z) 2 >>= _) _ _ _
  refine wpAny_bind (wpAny_field hz rfl (x := .bool false) rfl ?_)
  show wpAny _ _ (field (.ref z) 3 >>= _) _ _ _
  refine wpAny_bind (wpAny_field hz rfl (x := .ref TI) rfl ?_)
  refine wpAny_bind (wpAny_seqItems hTI rfl ?_)
  show wpAny _ _ (Builtin.SmallTypes.ownedTupleIsFree (.ref z) >>= _) _ _ _
  refine wpAny_bind (zip_isfree hz hf fun fr b' h0 hz' hs' => ?_)
  replace hs' : Heap.SameBut z hp h0 := hs'
  cases fr with
  | true =>
    simp only [if_true]
    refine wpAny_bind (wpAny_rule ?_)
    refine wpAny_bind (wpAny_field (s := ⟨h0, g, d, tk0, os⟩) hz' rfl (x := .ref TO) rfl ?_)
    refine wpAny_bind (wpAny_setField_rec (s := ⟨h0, g, d, tk0, os⟩) hz' (by simp) fun g0 hz0 hs0' => ?_)
    replace hz0 : ZipA g0 z TI TO .ellipsis b' := hz0
    have hs0 : Heap.SameBut z hp g0 := ⟨hs0'.1.trans hs'.1, fun c hc => (hs0'.2 c hc).trans (hs'.2 c hc)⟩
    refine wpAny_bind ?_
    simp only [List.zipIdx_cons, List.zipIdx_nil, List.forIn_cons, List.forIn_nil]
    refine wpAny_bind (wpAny_bind (wpAny_onRaise ?_))
    show wpAny _ _ (Builtin.SmallTypes.nextOf (.ref i1) >>= _) _ _ ⟨g0, g, d, tk0, os⟩
    by_cases hlt1 : i < n1
    · refine wpAny_bind (D1.item i _ _ _ hlt1 (D1.over st1 hs0 S.zf1) fun x1 p1 tk1 hx1 sn1 hp1 => wpAny_pure ?_)
      replace hp1 : Heap.SameBut i1 g0 p1 := hp1
      have hU1 : IsTupOf2 p1 TO a1 a2 := hp1.extBut _ _ S.Ti1 (hs0.extBut _ _ S.TOz hTO)
      refine wpAny_bind (wpAny_seqItems (s := ⟨p1, g, d, tk1, os⟩) hU1 rfl ?_)
      refine wpAny_bind (updateSeq_IsTupOf2 (s := ⟨p1, g, d, tk1, os⟩) hU1 fun g1 hT1 hs1 => ?_)
      replace hT1 : IsTupOf2 g1 TO x1 a2 := hT1
      replace hs1 : Heap.SameBut TO p1 g1 := hs1
      refine wpAny_bind (wpAny_letGo (wpAny_pure ?_))
      have hi2 : i = n2 := by omega
      refine wpAny_bind (wpAny_bind (wpAny_onRaise ?_))
      show wpAny _ _ (Builtin.SmallTypes.nextOf (.ref i2) >>= _) _ _ ⟨g1, g, d, tk1, os⟩
      refine wpAny_bind (D2.done ⟨g1, g, d, tk1, os⟩ _ _ (by rw [← hi2]; exact (D2.over (D2.over (D2.over st2 hs0 S.zf2) hp1 S.sep1_2) hs1 S.Tf2)) fun q e hq he => ?_)
      replace hq : Heap.ExtBut i2 g1 q := hq
      obtain ⟨oe, hoe, hce⟩ := he
      replace hoe : q.get? e = some oe := hoe
      have hzq : ZipA q z TI TO .ellipsis b' := hq _ _ S.zi2 (hs1.extBut _ _ S.TOz.symm (hp1.extBut _ _ S.zi1 hz0))
      have hez : e ≠ z := fun x => by subst x; rw [hzq] at hoe; cases hoe; simp at hce
      refine wpAny_setField_rec (s := ⟨q, g, d, tk1, os⟩) hzq (by simp) fun q' _ hq' => ?_
      replace hq' : Heap.SameBut z q q' := hq'
      exact hE q' tk1 e (fun c o cz cT c1 c2 x => hq'.extBut _ _ cz (hq _ _ c2 (hs1.extBut _ _ cT (hp1.extBut _ _ c1 (hs0.extBut _ _ cz x))))) ⟨oe, hq'.extBut _ _ hez hoe, hce⟩
    · have hi1 : i = n1 := by omega
      refine wpAny_bind (D1.done ⟨g0, g, d, tk0, os⟩ _ _ (by rw [← hi1]; exact (D1.over st1 hs0 S.zf1)) fun q e hq he => ?_)
      replace hq : Heap.ExtBut i1 g0 q := hq
      obtain ⟨oe, hoe, hce⟩ := he
      replace hoe : q.get? e = some oe := hoe
      have hzq : ZipA q z TI TO .ellipsis b' := hq _ _ S.zi1 hz0
      have hez : e ≠ z := fun x => by subst x; rw [hzq] at hoe; cases hoe; simp at hce
      refine wpAny_setField_rec (s := ⟨q, g, d, tk0, os⟩) hzq (by simp) fun q' _ hq' => ?_
      replace hq' : Heap.SameBut z q q' := hq'
      exact hE q' tk0 e (fun c o cz cT c1 c2 x => hq'.extBut _ _ cz (hq _ _ c1 (hs0.extBut _ _ cz x))) ⟨oe, hq'.extBut _ _ hez hoe, hce⟩
  | false =>
    simp only [Bool.false_eq_true, if_false]
    refine wpAny_bind ?_
    rw [← Array.forIn_toList]
    simp only [List.forIn_cons, List.forIn_nil]
    refine wpAny_bind (wpAny_bind (wpAny_holding ?_))
    show wpAny _ _ (Builtin.SmallTypes.nextOf (.ref i1) >>= _) _ _ ⟨h0, g, d, tk0, os⟩
    by_cases hlt1 : i < n1
    · refine wpAny_bind (D1.item i _ _ _ hlt1 (D1.over st1 hs' S.zf1) fun x1 p1 tk1 hx1 sn1 hp1 => wpAny_pure ?_)
      replace hp1 : Heap.SameBut i1 h0 p1 := hp1
      refine wpAny_pure ?_
      have hi2 : i = n2 := by omega
      refine wpAny_bind (wpAny_bind (wpAny_holding ?_))
      show wpAny _ _ (Builtin.SmallTypes.nextOf (.ref i2) >>= _) _ _ ⟨p1, g, d, tk1, os⟩
      refine wpAny_bind (D2.done ⟨p1, g, d, tk1, os⟩ _ _ (by rw [← hi2]; exact (D2.over (D2.over st2 hs' S.zf2) hp1 S.sep1_2)) fun q e hq he => ?_)
      replace hq : Heap.ExtBut i2 p1 q := hq
      exact hE q tk1 e (fun c o cz cT c1 c2 x => hq _ _ c2 (hp1.extBut _ _ c1 (hs'.extBut _ _ cz x))) he
    · have hi1 : i = n1 := by omega
      refine wpAny_bind (D1.done ⟨h0, g, d, tk0, os⟩ _ _ (by rw [← hi1]; exact (D1.over st1 hs' S.zf1)) fun q e hq he => ?_)
      replace hq : Heap.ExtBut i1 h0 q := hq
      exact hE q tk0 e (fun c o cz cT c1 c2 x => hq _ _ c1 (hs'.extBut _ _ cz x)) he

/-- enumerate over an iterator that may lay objects of its own -/
theorem enum_next_item {e it : Addr} {n : Int} {P : Value → Nat → Heap → Prop} {ch : List Addr} {old : Value} {Q : Value → Shared → Prop} (he : IsEnum s.heap e it n old) (hne : e ∉ ch)
    (inn : ∀ (Q' : Value → Shared → Prop) (E' : Value → Shared → Prop), (∀ x h₁ tk, P x tk h₁ → s.heap.objs.size ≤ h₁.objs.size → (∀ b o, b ∉ ch → s.heap.get? b = some o → h₁.get? b = some o) → Q' x { s with heap := h₁, toks := tk }) →
      wpAny (model prog w) A (Builtin.SmallTypes.nextOf (.ref it)) Q' E' s)
    (hQ : ∀ x h₁ h' tk, P x tk h₁ → s.heap.objs.size ≤ h₁.objs.size → (∀ b o, b ∉ ch → s.heap.get? b = some o → h₁.get? b = some o) → IsEnumOut h' e it (n + 1) x h₁.objs.size →
      h'.get? h₁.objs.size = some { cls := .type "tuple", data := .seq #[.int n tk, x] } → (∀ b o, b ≠ e → h₁.get? b = some o → h'.get? b = some o) → Q (.ref h₁.objs.size) { s with heap := h', toks := tk + 1 }) :
    wpAny (model prog w) A (Builtin.«enumerate.__next__» ⟨[.ref e], []⟩) (fun fin s' => ∃ v, fin = .done (.ret v) ∧ Q v s') E s := by
  obtain ⟨hp, g, d, tk₀, os⟩ := s
  show wpAny _ _ (field (.ref e) 2 >>= _) _ _ _
  refine wpAny_bind (wpAny_field he rfl (x := .ref it) rfl ?_)
  refine wpAny_bind (inn _ _ fun x h₁ tk hPx hsz hk => ?_)
  have he₁ : IsEnum h₁ e it n old := hk e _ hne he
  show wpAny _ _ (field (.ref e) 3 >>= _) _ _ ⟨h₁, g, d, tk, os⟩
  refine wpAny_bind (wpAny_field he₁ rfl (x := rawInt n) rfl ?_)
  show wpAny _ _ (field (.ref e) 4 >>= _) _ _ ⟨h₁, g, d, tk, os⟩
  refine wpAny_bind (wpAny_field he₁ rfl (x := .none) rfl ?_)
  show wpAny _ _ (mkInt n >>= _) _ _ ⟨h₁, g, d, tk, os⟩
  refine wpAny_bind (wpAny_mkInt ?_)
  show wpAny _ _ (setField (.ref e) 3 (rawInt (n + 1)) >>= _) _ _ ⟨h₁, g, d, tk + 1, os⟩
  refine wpAny_bind (wpAny_setField_rec he₁ (by simp) fun h₂ he₂ hs₂ => ?_)
  replace hs₂ : Heap.SameBut e h₁ h₂ := hs₂
  replace he₂ : IsEnum h₂ e it (n + 1) old := he₂
  show wpAny _ _ (setField (.ref e) 4 .none >>= _) _ _ ⟨h₂, g, d, tk + 1, os⟩
  refine wpAny_bind (wpAny_setField_rec he₂ (by simp) fun h₃ he₃ hs₃ => ?_)
  replace hs₃ : Heap.SameBut e h₂ h₃ := hs₃
  replace he₃ : IsEnum h₃ e it (n + 1) old := he₃
  show wpAny _ _ (newTuple [.int n tk, x] >>= _) _ _ ⟨h₃, g, d, tk + 1, os⟩
  refine wpAny_bind (wpAny_newTuple ?_)
  have he₄ : IsEnum (h₃.push { cls := .type "tuple", data := .seq #[.int n tk, x] }) e it (n + 1) old := Heap.get?_push_of_some _ he₃
  generalize hh₄ : h₃.push { cls := .type "tuple", data := .seq #[.int n tk, x] } = h₄ at he₄
  have hsz3 : h₃.objs.size = h₁.objs.size := by rw [hs₃.1, hs₂.1]
  have hel : e < h₁.objs.size := Heap.lt_size he₁
  have ht₄ : h₄.get? h₁.objs.size = some { cls := .type "tuple", data := .seq #[.int n tk, x] } := by rw [← hh₄, ← hsz3]; exact Heap.get?_push_size _ rfl
  have hk₄ : ∀ b o, b ≠ e → h₁.get? b = some o → h₄.get? b = some o := fun b o hbe hb => by
    rw [← hh₄]; exact Heap.get?_push_of_some _ (hs₃.extBut b o hbe (hs₂.extBut b o hbe hb))
  show wpAny _ _ (Builtin.SmallTypes.ownedTupleIsFree (.ref e) >>= _) _ _ ⟨h₄, g, d, tk + 1, os⟩
  rw [hsz3]
  clear hh₄ he₃ hs₃ he₂ hs₂ hsz3 h₃ h₂
  refine wpAny_bind ?_
  unfold Builtin.SmallTypes.ownedTupleIsFree
  refine wpAny_bind (wpAny_field he₄ rfl (x := .none) rfl (wpAny_pure ?_))
  simp only [if_true]
  refine wpAny_bind (wpAny_rule ?_)
  refine wpAny_bind (wpAny_field he₄ rfl (x := old) rfl ?_)
  refine wpAny_bind (wpAny_setField_rec he₄ (by simp) fun h₅ he₅ hs₅ => ?_)
  replace hs₅ : Heap.SameBut e h₄ h₅ := hs₅
  replace he₅ : IsEnum h₅ e it (n + 1) x := he₅
  show wpAny _ _ (Builtin.SmallTypes.ownedTupleHandOut (.ref e) (.ref h₁.objs.size) >>= _) _ _ ⟨h₅, g, d, tk + 1, os⟩
  refine wpAny_bind ?_
  unfold Builtin.SmallTypes.ownedTupleHandOut
  refine wpAny_bind (wpAny_setField_rec he₅ (by simp) fun h₆ he₆ hs₆ => ?_)
  replace hs₆ : Heap.SameBut e h₅ h₆ := hs₆
  replace he₆ : IsEnumOut h₆ e it (n + 1) x h₁.objs.size := he₆
  refine wpAny_setField_rec he₆ (by simp) fun h₇ he₇ hs₇ => ?_
  replace hs₇ : Heap.SameBut e h₆ h₇ := hs₇
  replace he₇ : IsEnumOut h₇ e it (n + 1) x h₁.objs.size := he₇
  exact wpAny_bind (wpAny_letGo (wpAny_pure ⟨_, rfl, hQ x h₁ h₇ tk hPx hsz hk he₇ (hs₇.extBut _ _ (Nat.ne_of_gt hel) (hs₆.extBut _ _ (Nat.ne_of_gt hel) (hs₅.extBut _ _ (Nat.ne_of_gt hel) ht₄)))
    fun b o hbe hb => hs₇.extBut b o hbe (hs₆.extBut b o hbe (hs₅.extBut b o hbe (hk₄ b o hbe hb)))⟩))
theorem pyNext_enum_item {e it : Addr} {n : Int} {P : Value → Nat → Heap → Prop} {ch : List Addr} {old : Value} {Q : Option Value → Shared → Prop} (he : IsEnum s.heap e it n old) (hne : e ∉ ch)
    (inn : ∀ (Q' : Value → Shared → Prop) (E' : Value → Shared → Prop), (∀ x h₁ tk, P x tk h₁ → s.heap.objs.size ≤ h₁.objs.size → (∀ b o, b ∉ ch → s.heap.get? b = some o → h₁.get? b = some o) → Q' x { s with heap := h₁, toks := tk }) →
      wpAny (model prog w) A.in1 (Builtin.SmallTypes.nextOf (.ref it)) Q' E' s)
    (hQ : ∀ x h₁ h' tk, P x tk h₁ → s.heap.objs.size ≤ h₁.objs.size → (∀ b o, b ∉ ch → s.heap.get? b = some o → h₁.get? b = some o) → IsEnumOut h' e it (n + 1) x h₁.objs.size →
      h'.get? h₁.objs.size = some { cls := .type "tuple", data := .seq #[.int n tk, x] } → (∀ b o, b ≠ e → h₁.get? b = some o → h'.get? b = some o) → Q (some (.ref h₁.objs.size)) { s with heap := h', toks := tk + 1 }) :
    wpAny (model prog w) A (pyNext (.ref e)) Q E s := by
  have hT : s.TypeIs (.ref e) "enumerate" := ⟨_, he, rfl⟩
  unfold pyNext
  exact wpAny_bind (wpAny_attempt (wpAny_callSpecial?_slot (name := Str.ofString "__next__") hT F.slot_enumerate_next
    (wpAny_call_entry F.slot_enumerate_next hT F.entry_enumerate_next
      (enum_next_item he hne inn fun x h1 h' tk a b c d k q => wpAny_pure (hQ x h1 h' tk a b c d k q)) (F.args_enumerate_next_1 _))))
theorem pyNext_enum_end {e it : Addr} {n : Int} {ch : List Addr} {old : Value} {Q : Option Value → Shared → Prop} (he : IsEnum s.heap e it n old)
    (inn : ∀ (Q' : Value → Shared → Prop) (E' : Value → Shared → Prop), (∀ h' tk x, (∀ b o, b ∉ ch → s.heap.get? b = some o → h'.get? b = some o) → (∃ o, h'.get? x = some o ∧ o.cls = .type "StopIteration") → E' (.ref x) { s with heap := h', toks := tk }) →
      wpAny (model prog w) A.in1 (Builtin.SmallTypes.nextOf (.ref it)) Q' E' s)
    (hQ : ∀ h' tk, (∀ b o, b ∉ ch → s.heap.get? b = some o → h'.get? b = some o) → Q none { s with heap := h', toks := tk }) : wpAny (model prog w) A (pyNext (.ref e)) Q E s := by
  have hT : s.TypeIs (.ref e) "enumerate" := ⟨_, he, rfl⟩
  unfold pyNext
  refine wpAny_bind (wpAny_attempt (wpAny_callSpecial?_slot (name := Str.ofString "__next__") hT F.slot_enumerate_next
    (wpAny_call_entry F.slot_enumerate_next hT F.entry_enumerate_next ?_ (F.args_enumerate_next_1 _))))
  show wpAny _ _ (field (.ref e) 2 >>= _) _ _ _
  refine wpAny_bind (wpAny_field he rfl (x := .ref it) rfl ?_)
  refine wpAny_bind (inn _ _ fun h' tk x he' hx' => ?_)
  obtain ⟨o, ho, hc⟩ := hx'
  refine wpAny_bind (wpAny_isInstance (T := "StopIteration") (b := true) ⟨o, ho, hc⟩ isSubtype_stop ?_)
  exact wpAny_pure (hQ _ _ he')
/-- the next of a zip -/
theorem nextOf_zip_item {Q : Value → Shared → Prop} (S : ZipSep2 z TI TO i1 i2 fp1 fp2) (D1 : Draws prog w A.in1 i1 fp1 n1 P1 St1) (D2 : Draws prog w A.in1 i2 fp2 n2 P2 St2)
    (hz : ZipA s.heap z TI TO f0 b) (hf : Zf f0) (hTI : IsTupOf2 s.heap TI (.ref i1) (.ref i2)) (hTO : IsTupOf2 s.heap TO a1 a2) (st1 : St1 i s.heap) (st2 : St2 i s.heap) (hlt1 : i < n1) (hlt2 : i < n2)
    (hQ : ∀ x1 x2 h' tk f0' b', P1 i x1 → P2 i x2 → ZipA h' z TI TO f0' b' → Zf f0' → (∃ a1 a2, IsTupOf2 h' TO a1 a2) → St1 (i + 1) h' → St2 (i + 1) h' → IsTupOf2 h' s.heap.objs.size x1 x2 → h'.objs.size = s.heap.objs.size + 1 →
      (∀ c o, c ≠ z → c ≠ TO → c ≠ i1 → c ≠ i2 → s.heap.get? c = some o → h'.get? c = some o) → Q (.ref s.heap.objs.size) { s with heap := h', toks := tk }) :
    wpAny (model prog w) A (Builtin.SmallTypes.nextOf (.ref z)) Q E s := by
  have hT : s.TypeIs (.ref z) "zip" := ⟨_, hz, rfl⟩
  unfold Builtin.SmallTypes.nextOf
  exact wpAny_bind (wpAny_callSpecial?_slot (name := Str.ofString "__next__") hT F.slot_zip_next (wpAny_call_entry F.slot_zip_next hT F.entry_zip_next
    (zip_next_item S D1 D2 hz hf hTI hTO st1 st2 hlt1 hlt2 fun x1 x2 h' tk f0' b' y1 y2 b1 b2 b3 d1 d2 b5 b6 b7 => wpAny_pure (hQ x1 x2 h' tk f0' b' y1 y2 b1 b2 b3 d1 d2 b5 b6 b7)) (F.args_zip_next_1 _)))
theorem nextOf_zip_end {Q : Value → Shared → Prop} (S : ZipSep2 z TI TO i1 i2 fp1 fp2) (D1 : Draws prog w A.in1 i1 fp1 n1 P1 St1) (D2 : Draws prog w A.in1 i2 fp2 n2 P2 St2)
    (hz : ZipA s.heap z TI TO f0 b) (hf : Zf f0) (hTI : IsTupOf2 s.heap TI (.ref i1) (.ref i2)) (hTO : IsTupOf2 s.heap TO a1 a2) (st1 : St1 i s.heap) (st2 : St2 i s.heap) (hle1 : i ≤ n1) (hle2 : i ≤ n2) (hend : i = n1 ∨ i = n2)
    (hE : ∀ h' tk e, (∀ c o, c ≠ z → c ≠ TO → c ≠ i1 → c ≠ i2 → s.heap.get? c = some o → h'.get? c = some o) → (∃ o, h'.get? e = some o ∧ o.cls = .type "StopIteration") → E (.ref e) { s with heap := h', toks := tk }) :
    wpAny (model prog w) A (Builtin.SmallTypes.nextOf (.ref z)) Q E s := by
  have hT : s.TypeIs (.ref z) "zip" := ⟨_, hz, rfl⟩
  unfold Builtin.SmallTypes.nextOf
  exact wpAny_bind (wpAny_callSpecial?_slot (name := Str.ofString "__next__") hT F.slot_zip_next (wpAny_call_entry F.slot_zip_next hT F.entry_zip_next
    (zip_next_end S D1 D2 hz hf hTI hTO st1 st2 hle1 hle2 hend hE) (F.args_zip_next_1 _)))
theorem letGo_zip {elts : List Expr} {x1 : Nat} {pos : Pos} {T : Addr} {Q : Unit → Shared → Prop} (hz : ZipA s.heap z TI TO f0 b)
    (hQ : ∀ h' f0', ZipA h' z TI TO f0' b → (f0' = f0 ∨ f0' = .none) → Heap.SameBut z s.heap h' → Q () { s with heap := h' }) :
    wpAny (model prog w) A (letOwnedTupleGo (.Tuple elts x1 pos) (.ref z) (.ref T)) Q E s := by
  unfold letOwnedTupleGo
  refine wpAny_bind (wpAny_load hz ?_)
  show wpAny _ _ (if (["enumerate", "zip", "dict_itemiterator", "dict_reverseitemiterator", "odict_iterator", "itertools.zip_longest", "itertools.pairwise"].contains "zip" &&
      (#[f0, .bool b, .bool false, .ref TI, .ref TO] : Array Value)[0]? == some (rawInt T)) = true then _ else _) Q E s
  split
  · refine wpAny_bind (wpAny_rule ?_)
    show wpAny _ _ (setField (.ref z) 0 .none) Q E s
    exact wpAny_setField_rec hz (by simp) fun h' hz' hs' => hQ h' .none hz' (.inr rfl) hs'
  · exact wpAny_pure (hQ s.heap f0 hz (.inl rfl) (Heap.SameBut.refl _ _))
end
theorem Draws.imp {prog : Program} {w : World} {A : Around} {it : Addr} {fp : List Addr} {n : Nat} {P P' : Nat → Value → Prop} {St : Nat → Heap → Prop} (D : Draws prog w A it fp n P St) (h : ∀ i v, P i v → P' i v) : Draws prog w A it fp n P' St :=
  ⟨D.live, D.frame, fun i s Q E hi st hQ => D.item i s Q E hi st fun x h' tk p => hQ x h' tk (h _ _ p), D.done⟩
end NvZ
set_option Elab.async false
set_option linter.all false
set_option maxRecDepth 100000
set_option maxHeartbeats 4000000
/-! The walks over any source: a list, a tuple, a text. -/
namespace NvZ
open PySem PySem.Spec PyProof.Rows L2
inductive Sv where
  | l (a : Addr) | t (a : Addr) | s (x : Str)
def Sv.v : Sv → V
  | .l a => .ref a
  | .t a => .ref a
  | .s x => .str x
def Sv.At (K : PySem.W.Frag) (H : Hp) : Sv → List V → Prop
  | .l a, xs => SqL K H a xs
  | .t a, xs => SqT K H a xs
  | .s x, xs => xs = x.cps.toList.map fun c => .str ⟨#[c]⟩
def Sv.val (k : Sv) (tk : Tok) : Value := match k with
  | .l a => .ref a
  | .t a => .ref a
  | .s x => .str x tk
def Sv.ob (k : Sv) (tk : Tok) : Obj := match k with
  | .l a => { cls := .type "list_iterator", data := .fields #[.ref a, .int 0 0] }
  | .t a => { cls := .type "tuple_iterator", data := .fields #[.ref a, .int 0 0] }
  | .s x => { cls := .type (strIterType x), data := .fields #[.str x tk, .int 0 0] }
def Sv.it (k : Sv) (tk : Tok) (it : Addr) (i : Nat) (h : Heap) : Prop := match k with
  | .l a => h.IsListIter it a i
  | .t a => h.IsTupleIter it a i
  | .s x => h.IsStrIter it (strIterType x) x tk i
def Sv.st (k : Sv) (its : List Value) (h : Heap) : Prop := match k with
  | .l a => h.IsList a its.toArray
  | .t a => h.IsTuple a its.toArray
  | .s _ => True
def Sv.fp : Sv → List Addr
  | .l a => [a]
  | .t a => [a]
  | .s _ => []
theorem Sv.obj {k : Sv} {tk : Tok} {it : Addr} {i : Nat} {h : Heap} (e : k.it tk it i h) : ∃ o, h.get? it = some o ∧ ∀ v, o.data ≠ .cell v := by
  cases k <;> obtain ⟨o, ho, hc, hd⟩ := e <;> exact ⟨o, ho, fun v z => by rw [hd] at z; cases z⟩
theorem Sv.lt {k : Sv} {tk : Tok} {it : Addr} {i : Nat} {h : Heap} (e : k.it tk it i h) : it < h.objs.size := by
  obtain ⟨o, ho, _⟩ := Sv.obj e
  exact Heap.lt_size ho
theorem Sv.keep {k : Sv} {tk : Tok} {it : Addr} {i : Nat} {h h' : Heap} (e : k.it tk it i h) (g : ∀ o, h.get? it = some o → h'.get? it = some o) : k.it tk it i h' := by
  cases k <;> obtain ⟨o, ho, r⟩ := e <;> exact ⟨o, g o ho, r⟩
section
variable {X : Cx} {pins : List (Addr × Obj)} {σ : L2.St} {H : Hp} {s : Shared} {k : Sv} {xs ys : List V}
/-- what a source draws -/
theorem Sv.draws (I : Inv X pins σ H s) (h : k.At X.K H xs) (tk : Tok) : ∃ its : List Value, k.st its s.heap ∧ (∀ a ∈ k.fp, a < s.heap.objs.size) ∧ xs.length ≤ sizeLine + xs.length ∧
    (∀ (o : Heap) , True) ∧ Begins (k.val tk) (k.ob tk) (k.st its) ∧ ∀ (A : Around) (it : Addr), A.handled = none → (∀ a ∈ k.fp, a ≠ it) → Draws X.prog X.w A it (it :: k.fp) xs.length (fun i v => ∃ x, xs[i]? = some x ∧ RelV x v) (fun i h => k.it tk it i h ∧ k.st its h) := by
  cases k with
  | l a =>
    obtain ⟨its, rv, p, hz⟩ := I.list h
    refine ⟨its, p.isList, fun b hb => ?_, Nat.le_add_left _ _, fun _ => trivial, begins_list a _, fun A it hh hne => ?_⟩
    · have e : b = a := by simpa [Sv.fp] using hb
      rw [e]; exact p.lt
    · have D := Draws.list (prog := X.prog) (w := X.w) hh it a (hne a (by simp [Sv.fp])) its.toArray
      have el : its.toArray.size = xs.length := by rw [List.size_toArray, rv.length]
      rw [el] at D
      exact Draws.imp D fun i v e => by
        have e' : its[i]? = some v := by simpa using e
        have hi : i < xs.length := by rw [rv.length]; exact (List.getElem?_eq_some_iff.mp e').1
        obtain ⟨u, hu, ru⟩ := rv.get (x := xs[i]) (i := i) (by simp [hi])
        rw [e'] at hu; cases hu
        exact ⟨xs[i], by simp [hi], ru⟩
  | t a =>
    obtain ⟨its, rv, p, hz⟩ := I.tuple h
    refine ⟨its, p, fun b hb => ?_, Nat.le_add_left _ _, fun _ => trivial, begins_tuple a _, fun A it hh hne => ?_⟩
    · have e : b = a := by simpa [Sv.fp] using hb
      obtain ⟨o, ho, _⟩ := p
      rw [e]; exact Heap.lt_size ho
    · have D := Draws.tuple (prog := X.prog) (w := X.w) hh it a (hne a (by simp [Sv.fp])) its.toArray
      have el : its.toArray.size = xs.length := by rw [List.size_toArray, rv.length]
      rw [el] at D
      exact Draws.imp D fun i v e => by
        have e' : its[i]? = some v := by simpa using e
        have hi : i < xs.length := by rw [rv.length]; exact (List.getElem?_eq_some_iff.mp e').1
        obtain ⟨u, hu, ru⟩ := rv.get (x := xs[i]) (i := i) (by simp [hi])
        rw [e'] at hu; cases hu
        exact ⟨xs[i], by simp [hi], ru⟩
  | s x =>
    have hx : xs = x.cps.toList.map fun c => .str ⟨#[c]⟩ := h
    refine ⟨[], trivial, fun b hb => by simp [Sv.fp] at hb, Nat.le_add_left _ _, fun _ => trivial, ?_, fun A it hh hne => ?_⟩
    · have B := begins_text x tk
      exact ⟨fun prog w A E s Q _ => B.iter prog w A E s Q trivial, fun _ _ _ _ => trivial, rfl⟩
    · have D := Draws.text (prog := X.prog) (w := X.w) hh it x tk
      have el : x.cps.size = xs.length := by rw [hx]; simp
      rw [el] at D
      have D' : Draws X.prog X.w A it [it] xs.length (fun i v => ∃ y, xs[i]? = some y ∧ RelV y v) (fun i h => h.IsStrIter it (strIterType x) x tk i) := Draws.imp D fun i v ⟨c, u, e, ev⟩ => by
        refine ⟨.str ⟨#[c]⟩, ?_, ?_⟩
        · rw [hx]; simp [e]
        · rw [ev]; exact ⟨u, rfl⟩
      exact ⟨fun i h st => D'.live i h st.1, fun i h h' st g => ⟨D'.frame i h h' st.1 g, trivial⟩, fun i s Q E hi st hQ => D'.item i s Q E hi st.1 fun y h' tk p q r => hQ y h' tk p ⟨q, trivial⟩ r, fun s Q E st hE => D'.done s Q E st.1 hE⟩
theorem Sv.ob_it {k : Sv} {tk : Tok} {it : Addr} {h : Heap} (e : h.get? it = some (k.ob tk)) : k.it tk it 0 h := by
  cases k <;> exact ⟨_, e, rfl, rfl⟩
theorem Sv.rel {u : Value} (r : RelV k.v u) : ∃ tk, u = k.val tk := by
  cases k with
  | l a => cases r; exact ⟨0, rfl⟩
  | t a => cases r; exact ⟨0, rfl⟩
  | s x => obtain ⟨t, rfl⟩ := r; exact ⟨t, rfl⟩
theorem Sv.inj (I : Inv X pins σ H s) (h : k.At X.K H xs) (h' : k.At X.K H ys) : xs = ys := by
  cases k with
  | l a => exact I.list_inj h h'
  | t a => exact I.tuple_inj h h'
  | s x => exact (show xs = _ from h).trans (show ys = _ from h').symm
end
/-! ### a list or a tuple, or a text -/
def ItS (K : PySem.W.Frag) (k : Sv) : It := match k with
  | .l a => Itl K a
  | .t a => Itt K a
  | .s x => Its x
def iSeq (K : PySem.W.Frag) (tl : TE) : TI := fun σ H R => tl σ H fun x H1 => ∃ k : Sv, x = k.v ∧ (∃ xs, k.At K H1 xs) ∧ R (ItS K k) H1
theorem pi_seq {X : Cx} {tg l : Expr} {tl : TE} (hl : PE X l tl) : PI X tg l (iSeq X.K tl) := by
  refine ⟨fun pins s σ H R I h => ?_⟩
  refine thn (hl.run pins s σ H _ I h) fun v s1 ⟨x, H1, I1, r1, q1⟩ => ?_
  obtain ⟨k, e, ⟨xs, hq⟩, q⟩ := q1
  subst e
  have ev : ∀ (te : TE), (∀ Q : VK, te σ H1 Q = Q k.v H1) → True := fun _ _ => trivial
  cases k with
  | l a =>
    cases r1
    have hq : SqL X.K H1 a xs := hq
    obtain ⟨its, rv, p, hz⟩ := I1.list hq
    refine wpAny_pyIter_list p.isList ?_
    refine ⟨s1.heap.objs.size, [s1.heap.objs.size], _, _, H1, rfl, I1.kept (t' := s1.toks) fun b o e => Heap.get?_push_of_some _ e, turn_list a _, ⟨_, Heap.get?_push_size _ rfl, rfl, rfl⟩, fun b hb => ?_, q⟩
    have e : b = s1.heap.objs.size := by simpa using hb
    subst e
    exact I1.fpOk (Nat.le_refl _) (I1.hok.fresh (Nat.le_refl _))
  | t a =>
    cases r1
    have hq : SqT X.K H1 a xs := hq
    obtain ⟨its, rv, p, hz⟩ := I1.tuple hq
    refine wpAny_pyIter_tuple (show s1.heap.IsTuple a its.toArray from p) ?_
    refine ⟨s1.heap.objs.size, [s1.heap.objs.size], _, _, H1, rfl, I1.kept (t' := s1.toks) fun b o e => Heap.get?_push_of_some _ e, turn_tuple a _, ⟨_, Heap.get?_push_size _ rfl, rfl, rfl⟩, fun b hb => ?_, q⟩
    have e : b = s1.heap.objs.size := by simpa using hb
    subst e
    exact I1.fpOk (Nat.le_refl _) (I1.hok.fresh (Nat.le_refl _))
  | s x =>
    obtain ⟨t, rfl⟩ := r1
    cases ha : x.cps.all (· < 128)
    · exact wpAny_pyIter_wide ha (pi_one (tk := s1.toks) I1 _ (turn_str _ x t "str_iterator" (.inr rfl)) ⟨_, Heap.get?_push_size _ rfl, rfl, rfl⟩ q)
    · exact wpAny_pyIter_ascii ha (pi_one (tk := s1.toks) I1 _ (turn_str _ x t "str_ascii_iterator" (.inl rfl)) ⟨_, Heap.get?_push_size _ rfl, rfl, rfl⟩ q)
/-! ### enumerate -/
def ItE (K : PySem.W.Frag) (k : Sv) : It :=
  ⟨fun i H => ∃ (xs : List V) (x : V), k.At K H xs ∧ xs[i]? = some x, fun i H v H' => ∃ T x, v = .ref T ∧ H T = none ∧ H' = upd H T (.tup [.int (i : Nat), x]) ∧ ∀ xs, k.At K H xs → xs[i]? = some x, fun i H => ∃ xs : List V, k.At K H xs ∧ xs.length = i⟩
theorem turn_enumS {P : Program} {w : World} {K : PySem.W.Frag} {elts : List Expr} {kk : Nat} {tpos : Pos} (k : Sv) (tk : Tok) (e it : Addr) (he0 : e ∉ k.fp) (hi0 : ∀ a ∈ k.fp, a ≠ it) :
    Turn P w K (.Tuple elts kk tpos) (ItE K k) [e, it] e (fun i h => (∃ old, IsEnum h e it ((i : Nat) : Int) old) ∧ k.it tk it i h ∧ e ≠ it) where
  mem := by simp
  obj := fun i h st b hb => by
    obtain ⟨⟨old, he⟩, hi, _⟩ := st
    have e' : b = e ∨ b = it := by simpa using hb
    rcases e' with z | z
    · rw [z]; exact ⟨_, he, fun v q => nomatch q⟩
    · rw [z]; exact Sv.obj hi
  keep := fun i h h' st g => let ⟨⟨old, he⟩, hi, hne⟩ := st; ⟨⟨old, g e (by simp) _ he⟩, Sv.keep hi fun o q => g it (by simp) o q, hne⟩
  item := by
    intro X hP hw hK hc i pins s σ H E I hf st hg
    subst hP hw hK
    obtain ⟨⟨old, he⟩, hit, hne⟩ := st
    obtain ⟨xs, x, hq, hx⟩ := hg
    obtain ⟨its, hst, hlt, _, _, B, D⟩ := Sv.draws I hq tk
    have hel : e < s.heap.objs.size := Heap.lt_size he
    have hil : it < s.heap.objs.size := Sv.lt hit
    have hi : i < xs.length := (List.getElem?_eq_some_iff.mp hx).1
    have hef : e ∉ it :: k.fp := fun z => by
      rcases List.mem_cons.mp z with z | z
      · exact hne z
      · exact he0 z
    refine wpAny_pyNext_enum_itemD (D X.A.in1 it (I.ok.hd hc) hi0) he ⟨hit, hst⟩ hi hne hef fun u h' tk' pu ho hit' hT hsz hk => ?_
    obtain ⟨y, hy, ru⟩ := pu
    rw [hx] at hy; cases hy
    refine ⟨_, rfl, wpAny_letOwnedTupleGo_enum (s := { s with heap := h', toks := tk' + 1 }) ho fun h'' he' sb => ?_⟩
    have hT2 : h''.get? s.heap.objs.size = some { cls := .type "tuple", data := .seq #[.int i tk', u] } := (sb.2 _ (Nat.ne_of_gt hel)).trans hT
    have new : ObjOk X.prog X.w (upd H s.heap.objs.size (.tup [.int (i : Nat), x])) h'' s.heap.objs.size (.tup [.int (i : Nat), x]) :=
      ⟨by show 2 ≤ sizeLine; decide, [.int i tk', u], .cons ⟨_, rfl⟩ (.cons ru .nil), ⟨_, hT2, rfl, _, rfl⟩⟩
    have I1 : Inv X pins σ (upd H s.heap.objs.size (.tup [.int (i : Nat), x])) { s with heap := h'', toks := tk' + 1 } :=
      I.turnedNew (ch := [e, it]) (fun b ob hb q => (sb.2 b (fun z => hb (by simp [z]))).trans (hk b ob (fun z => hb (by simp [z])) (fun z => hb (by simp [z])) q)) hf (Nat.le_refl _) new
    refine ⟨.ref s.heap.objs.size, _, I1, rfl, ⟨_, x, rfl, I.hok.fresh (Nat.le_refl _), rfl, fun ys hy => by rw [Sv.inj I hy hq]; exact hx⟩, ⟨⟨u, ?_⟩, Sv.keep hit'.1 fun o q => (sb.2 it (Ne.symm hne)).trans q, hne⟩, fun b hb => ?_⟩
    · have e1 : ((i + 1 : Nat) : Int) = (i : Int) + 1 := by omega
      rw [e1]; exact he'
    · have hb' : b < s.heap.objs.size := by
        have e' : b = e ∨ b = it := by simpa using hb
        rcases e' with z | z
        · rw [z]; exact hel
        · rw [z]; exact hil
      rw [upd_ne (Nat.ne_of_lt hb')]
      exact (hf b hb).1
  done := by
    intro X hP hw hK hc i pins s σ H E I hf st hg
    subst hP hw hK
    obtain ⟨⟨old, he⟩, hit, hne⟩ := st
    obtain ⟨xs, hq, hx⟩ := hg
    obtain ⟨its, hst, hlt, _, _, B, D⟩ := Sv.draws I hq tk
    obtain ⟨f0, f1, f2, f3, f4, f5⟩ := hf it (by simp)
    subst hx
    exact wpAny_pyNext_enum_endD (D X.A.in1 it (I.ok.hd hc) hi0) he ⟨hit, hst⟩ fun h' eb => ⟨rfl, I.turned (t' := s.toks) (fun b o hb q => eb b o hb q) f0 f1 f3 f4 f5⟩
  self := fun A i s Q E st h => let ⟨⟨_, he⟩, _⟩ := st; wpAny_pyIter_enum he h
def iEnumS (K : PySem.W.Frag) (ta : TA) : TI := fun σ H R => ta σ H fun vs H1 => ∃ (k : Sv), vs = [k.v] ∧ (∃ xs, k.At K H1 xs) ∧ R (ItE K k) H1

theorem meets_enumerate_newB1 {v : Value} {o : Obj} {H : Heap → Prop} (B : Begins v o H) :
    Meets (Builtin.«enumerate.__new__» ⟨[.type "enumerate", v], []⟩) (fun _ R s => H s.heap ∧
      R (.ok (.ret (.ref (s.heap.push o).objs.size))) { s with heap := (s.heap.push o).push { cls := .type "enumerate", data := .fields #[.none, .bool false, .ref s.heap.objs.size, rawInt 0, .none, .none] } }) :=
  .of_wp fun prog w A R s h => by
    obtain ⟨hp, g, d, tk, os⟩ := s; obtain ⟨h1, h⟩ := h
    have hsub := sub_enumerate
    have q1 : ∀ {A' : Around} {E : Value → Shared → Prop} {Q : Value → Shared → Prop}, Q (.ref hp.objs.size) ⟨hp.push o, g, d, tk, os⟩ → wpAny (model prog w) A' (pyIter v) Q E ⟨hp, g, d, tk, os⟩ :=
      fun q => B.iter prog w _ _ ⟨hp, g, d, tk, os⟩ _ h1 q
    wp_walk using q1
    refine wpAny_stack_any fun st => wpAny_pure ?_
    split
    · rename_i c _ _ _ _ _
      cases (c == Value.type "enumerate")
      · wp_walk using q1
        exact ⟨_, rfl, h⟩
      · wp_walk using q1
        exact ⟨_, rfl, h⟩
    · wp_walk using q1
      exact ⟨_, rfl, h⟩
theorem iter_zipA {prog : Program} {w : World} {A : Around} {E : Value → Shared → Prop} {s : Shared} {z TI TO : Addr} {f0 : Value} {b : Bool} {Q : Value → Shared → Prop} (hz : ZipA s.heap z TI TO f0 b) (h : Q (.ref z) s) : wpAny (model prog w) A (pyIter (.ref z)) Q E s := by
  have hT : s.TypeIs (.ref z) "zip" := ⟨_, hz, rfl⟩
  refine wpAny_pyIter_slot hT F.slot_zip_iter (wpAny_call_entry F.slot_zip_iter hT F.entry_zip_iter ?_ (F.args_zip_iter_1 _))
  show wpAny _ _ (ret (.ref z)) _ _ s
  exact wpAny_pure ⟨_, rfl, "zip", _, hT, F.slot_zip_next.lookup, h⟩
theorem meets_enumerate_newZ {z TI TO : Addr} {f0 : Value} {b : Bool} :
    Meets (Builtin.«enumerate.__new__» ⟨[.type "enumerate", .ref z], []⟩) (fun _ R s => ZipA s.heap z TI TO f0 b ∧
      R (.ok (.ret (.ref s.heap.objs.size))) { s with heap := s.heap.push { cls := .type "enumerate", data := .fields #[.none, .bool false, .ref z, rawInt 0, .none, .none] } }) :=
  .of_wp fun prog w A R s h => by
    obtain ⟨hp, g, d, tk, os⟩ := s; obtain ⟨h1, h⟩ := h
    have hsub := sub_enumerate
    have q1 : ∀ {A' : Around} {E : Value → Shared → Prop} {Q : Value → Shared → Prop}, Q (.ref z) ⟨hp, g, d, tk, os⟩ → wpAny (model prog w) A' (pyIter (.ref z)) Q E ⟨hp, g, d, tk, os⟩ :=
      fun q => iter_zipA (s := ⟨hp, g, d, tk, os⟩) h1 q
    wp_walk using q1
    refine wpAny_stack_any fun st => wpAny_pure ?_
    split
    · rename_i c _ _ _ _ _
      cases (c == Value.type "enumerate")
      · wp_walk using q1
        exact ⟨_, rfl, h⟩
      · wp_walk using q1
        exact ⟨_, rfl, h⟩
    · wp_walk using q1
      exact ⟨_, rfl, h⟩
section
variable {prog : Program} {w : World} {A : Around} {E : Value → Shared → Prop} {s : Shared}
theorem enum_begins1 {v : Value} {o : Obj} {H : Heap → Prop} {Q : Value → Shared → Prop} (B : Begins v o H) (h1 : H s.heap)
    (h : ∀ h', IsEnum h' (s.heap.objs.size + 1) s.heap.objs.size 0 .none → h'.get? s.heap.objs.size = some o → h'.objs.size = s.heap.objs.size + 2 →
      (∀ b o, s.heap.get? b = some o → h'.get? b = some o) → Q (.ref (s.heap.objs.size + 1)) { s with heap := h' }) :
    wpAny (model prog w) A (call (.type "enumerate") [v]) Q E s := by
  refine callType_new F.called_enumerate (by decide) (F.typeCall_enumerate_1 _) (F.newCall_enumerate_1 _) (fun obj => F.args_object_init_2 obj _) F.entry_enumerate_new
    (meets_enumerate_newB1 B) ⟨h1, ?_⟩
  have hz : (s.heap.push o).objs.size = s.heap.objs.size + 1 := Heap.size_push ..
  show _ ∧ _
  rw [hz]
  have he : IsEnum ((s.heap.push o).push { cls := .type "enumerate", data := .fields #[.none, .bool false, .ref s.heap.objs.size, rawInt 0, .none, .none] }) (s.heap.objs.size + 1) s.heap.objs.size 0 .none := by
    have := Heap.get?_push_size (s.heap.push o) (o := { cls := .type "enumerate", data := .fields #[.none, .bool false, .ref s.heap.objs.size, rawInt 0, .none, .none] }) rfl
    rw [hz] at this; exact this
  refine ⟨⟨_, he, rfl⟩, h _ he (Heap.get?_push_of_some _ (Heap.get?_push_size _ B.free)) (by rw [Heap.size_push, hz]) fun b o x => Heap.get?_push_of_some _ (Heap.get?_push_of_some _ x)⟩
theorem enum_beginsZ {z TI TO : Addr} {f0 : Value} {b : Bool} {Q : Value → Shared → Prop} (hz : ZipA s.heap z TI TO f0 b)
    (h : ∀ h', IsEnum h' s.heap.objs.size z 0 .none → h'.objs.size = s.heap.objs.size + 1 →
      (∀ b o, s.heap.get? b = some o → h'.get? b = some o) → Q (.ref s.heap.objs.size) { s with heap := h' }) :
    wpAny (model prog w) A (call (.type "enumerate") [.ref z]) Q E s := by
  refine callType_new F.called_enumerate (by decide) (F.typeCall_enumerate_1 _) (F.newCall_enumerate_1 _) (fun obj => F.args_object_init_2 obj _) F.entry_enumerate_new
    meets_enumerate_newZ ⟨hz, ?_⟩
  show _ ∧ _
  have he : IsEnum (s.heap.push { cls := .type "enumerate", data := .fields #[.none, .bool false, .ref z, rawInt 0, .none, .none] }) s.heap.objs.size z 0 .none := Heap.get?_push_size _ rfl
  exact ⟨⟨_, he, rfl⟩, h _ he (Heap.size_push ..) fun b o x => Heap.get?_push_of_some _ x⟩
end
theorem pi_enumS {X : Cx} {e : Expr} {ta : TA} {p pos tpos : Pos} {elts : List Expr} {kk : Nat} (hg : Gl X "enumerate") (hm : X.mg "enumerate" = none) (ha : PA X [e] ta) (hs : starEach [e] X.env = [(false, eval e X.env)] := by rfl) :
    PI X (.Tuple elts kk tpos) (.Call (.Name "enumerate" p) [e] [] pos) (iEnumS X.K ta) := by
  refine ⟨fun pins s σ H R I h => ?_⟩
  refine Call_ (ld_blt I hg hm boot_enumerate (PyProof.Rows.callWith_type1 (thn (ha.run pos pins s σ H _ I h) fun us s1 ⟨vs, H1, I1, r1, q1⟩ => ?_) hs rfl))
  obtain ⟨k, ex, ⟨xs, hq⟩, q⟩ := q1
  subst ex
  cases r1 with
  | cons r rr =>
    cases rr
    obtain ⟨tk, rfl⟩ := Sv.rel r
    obtain ⟨its, hst, hlt, _, _, B, D⟩ := Sv.draws I1 hq tk
    refine enum_begins1 B hst fun h' he hit hsz hk => wpAny_pyIter_enum he ?_
    have I2 : Inv X pins σ H1 { s1 with heap := h' } := I1.kept (t' := s1.toks) hk
    refine ⟨s1.heap.objs.size + 1, [s1.heap.objs.size + 1, s1.heap.objs.size], _, _, H1, rfl, I2, turn_enumS k tk (s1.heap.objs.size + 1) s1.heap.objs.size (fun z => ?_) (fun a ha => Nat.ne_of_lt (hlt a ha)), ⟨⟨.none, he⟩, Sv.ob_it hit, Nat.succ_ne_self _⟩, fun b hb => ?_, q⟩
    · exact absurd (hlt _ z) (Nat.not_lt.mpr (Nat.le_add_right _ _))
    · have e' : b = s1.heap.objs.size + 1 ∨ b = s1.heap.objs.size := by simpa using hb
      have hle : s1.heap.objs.size ≤ b := by
        rcases e' with z | z
        · rw [z]; exact Nat.le_add_right _ _
        · rw [z]; exact Nat.le_refl _
      exact I1.fpOk hle (I1.hok.fresh hle)
/-! ### zip of two sources -/
def ItZ (K : PySem.W.Frag) (k1 k2 : Sv) : It :=
  ⟨fun i H => ∃ (xs ys : List V) (x y : V), k1.At K H xs ∧ k2.At K H ys ∧ xs[i]? = some x ∧ ys[i]? = some y,
    fun i H v H' => ∃ T x y, v = .ref T ∧ H T = none ∧ H' = upd H T (.tup [x, y]) ∧ (∀ xs, k1.At K H xs → xs[i]? = some x) ∧ ∀ ys, k2.At K H ys → ys[i]? = some y,
    fun i H => ∃ xs ys : List V, k1.At K H xs ∧ k2.At K H ys ∧ i ≤ xs.length ∧ i ≤ ys.length ∧ (i = xs.length ∨ i = ys.length)⟩
/-- enumerate of it: the inner pair is laid too -/
def ItEZ (K : PySem.W.Frag) (k1 k2 : Sv) : It :=
  ⟨fun i H => ∃ (xs ys : List V) (x y : V), k1.At K H xs ∧ k2.At K H ys ∧ xs[i]? = some x ∧ ys[i]? = some y,
    fun i H v H' => ∃ T U x y, v = .ref T ∧ H U = none ∧ upd H U (.tup [x, y]) T = none ∧ H' = upd (upd H U (.tup [x, y])) T (.tup [.int (i : Nat), .ref U]) ∧ (∀ xs, k1.At K H xs → xs[i]? = some x) ∧ ∀ ys, k2.At K H ys → ys[i]? = some y,
    fun i H => ∃ xs ys : List V, k1.At K H xs ∧ k2.At K H ys ∧ i ≤ xs.length ∧ i ≤ ys.length ∧ (i = xs.length ∨ i = ys.length)⟩
/-- the zip at z in turn i -/
def ZipSt (k1 k2 : Sv) (t1 t2 : Tok) (z TI TO i1 i2 : Addr) (i : Nat) (h : Heap) : Prop :=
  (∃ f0 b, ZipA h z TI TO f0 b ∧ Zf f0) ∧ IsTupOf2 h TI (.ref i1) (.ref i2) ∧ (∃ x y, IsTupOf2 h TO x y) ∧ k1.it t1 i1 i h ∧ k2.it t2 i2 i h
theorem ZipSt.keep {k1 k2 : Sv} {t1 t2 : Tok} {z TI TO i1 i2 : Addr} {i : Nat} {h h' : Heap} (e : ZipSt k1 k2 t1 t2 z TI TO i1 i2 i h) (g : ∀ b ∈ [z, TI, TO, i1, i2], ∀ o, h.get? b = some o → h'.get? b = some o) : ZipSt k1 k2 t1 t2 z TI TO i1 i2 i h' := by
  obtain ⟨⟨f0, b, hz, hf⟩, hTI, ⟨x, y, hTO⟩, h1, h2⟩ := e
  exact ⟨⟨f0, b, g z (by simp) _ hz, hf⟩, g TI (by simp) _ hTI, ⟨x, y, g TO (by simp) _ hTO⟩, Sv.keep h1 fun o q => g i1 (by simp) o q, Sv.keep h2 fun o q => g i2 (by simp) o q⟩
theorem ZipSt.obj {k1 k2 : Sv} {t1 t2 : Tok} {z TI TO i1 i2 : Addr} {i : Nat} {h : Heap} (e : ZipSt k1 k2 t1 t2 z TI TO i1 i2 i h) : ∀ c ∈ [z, TI, TO, i1, i2], ∃ o, h.get? c = some o ∧ ∀ v, o.data ≠ .cell v := fun c hc => by
  obtain ⟨⟨f0, b, hz, hf⟩, hTI, ⟨x, y, hTO⟩, h1, h2⟩ := e
  have e' : c = z ∨ c = TI ∨ c = TO ∨ c = i1 ∨ c = i2 := by simpa using hc
  rcases e' with q | q | q | q | q
  · rw [q]; exact ⟨_, hz, fun v q => nomatch q⟩
  · rw [q]; exact ⟨_, hTI, fun v q => nomatch q⟩
  · rw [q]; exact ⟨_, hTO, fun v q => nomatch q⟩
  · rw [q]; exact Sv.obj h1
  · rw [q]; exact Sv.obj h2
theorem turn_zipS {P : Program} {w : World} {K : PySem.W.Frag} {elts : List Expr} {kk : Nat} {tpos : Pos} {k1 k2 : Sv} {t1 t2 : Tok} {z TI TO i1 i2 : Addr} (S : ZipSep2 z TI TO i1 i2 (i1 :: k1.fp) (i2 :: k2.fp)) (n1 : ∀ a ∈ k1.fp, a ≠ i1) (n2 : ∀ a ∈ k2.fp, a ≠ i2) :
    Turn P w K (.Tuple elts kk tpos) (ItZ K k1 k2) [z, TI, TO, i1, i2] z (ZipSt k1 k2 t1 t2 z TI TO i1 i2) where
  mem := by simp
  obj := fun i h st => st.obj
  keep := fun i h h' st k => st.keep k
  item := by
    intro X hP hw hK hc i pins s σ H E I hf st hg
    subst hP hw hK
    have ob := st.obj
    obtain ⟨⟨f0, b, hz, hzf⟩, hTI, ⟨x0, y0, hTO⟩, h1, h2⟩ := st
    obtain ⟨xs, ys, x, y, hqx, hqy, hx, hy⟩ := hg
    obtain ⟨its, hst, _, _, _, _, D1⟩ := Sv.draws I hqx t1
    obtain ⟨its2, hst2, _, _, _, _, D2⟩ := Sv.draws I hqy t2
    have hzl : z < s.heap.objs.size := Heap.lt_size hz
    have hT0 : s.TypeIs (.ref z) "zip" := ⟨_, hz, rfl⟩
    unfold pyNext
    refine wpAny_bind (wpAny_attempt (wpAny_callSpecial?_slot (name := Str.ofString "__next__") hT0 F.slot_zip_next (wpAny_call_entry F.slot_zip_next hT0 F.entry_zip_next
      (zip_next_item S (D1 X.A.in1 i1 (I.ok.hd hc) n1) (D2 X.A.in1 i2 (I.ok.hd hc) n2) hz hzf hTI hTO ⟨h1, hst⟩ ⟨h2, hst2⟩ (List.getElem?_eq_some_iff.mp hx).1 (List.getElem?_eq_some_iff.mp hy).1
        fun u u2 h' tk f0' b' p1 p2 z' zf' TO' h1' h2' hT hsz hk => wpAny_pure ?_) (F.args_zip_next_1 _))))
    obtain ⟨y1, e1, ru⟩ := p1
    rw [hx] at e1; cases e1
    obtain ⟨y2, e2, ru2⟩ := p2
    rw [hy] at e2; cases e2
    refine ⟨_, rfl, letGo_zip (s := { s with heap := h', toks := tk }) z' fun h'' f2 z'' zz sb => ?_⟩
    have hT2 : h''.get? s.heap.objs.size = some { cls := .type "tuple", data := .seq #[u, u2] } := (sb.2 _ (Nat.ne_of_gt hzl)).trans hT
    have new : ObjOk X.prog X.w (upd H s.heap.objs.size (.tup [x, y])) h'' s.heap.objs.size (.tup [x, y]) :=
      ⟨by show 2 ≤ sizeLine; decide, [u, u2], .cons ru (.cons ru2 .nil), ⟨_, hT2, rfl, _, rfl⟩⟩
    have I1 : Inv X pins σ (upd H s.heap.objs.size (.tup [x, y])) { s with heap := h'', toks := tk } :=
      I.turnedNew (t' := tk) (ch := [z, TI, TO, i1, i2]) (fun c o hb q => (sb.2 c (fun q' => hb (by simp [q']))).trans (hk c o (fun q' => hb (by simp [q'])) (fun q' => hb (by simp [q'])) (fun q' => hb (by simp [q'])) (fun q' => hb (by simp [q'])) q)) hf (Nat.le_refl _) new
    have zf2 : Zf f2 := by
      rcases zz with e | e
      · rw [e]; exact zf'
      · exact .inl e
    obtain ⟨ta, tb, TO'⟩ := TO'
    refine ⟨.ref s.heap.objs.size, _, I1, rfl, ⟨_, x, y, rfl, I.hok.fresh (Nat.le_refl _), rfl, fun l hl => by rw [Sv.inj I hl hqx]; exact hx, fun l hl => by rw [Sv.inj I hl hqy]; exact hy⟩, ⟨⟨f2, b', z'', zf2⟩, ?_, ⟨ta, tb, ?_⟩, ?_, ?_⟩, fun c hcm => ?_⟩
    · exact (sb.2 _ S.TIz).trans (hk _ _ S.TIz S.TITO S.TIi1 S.TIi2 hTI)
    · exact (sb.2 _ S.TOz).trans TO'
    · exact Sv.keep h1'.1 fun o q => (sb.2 _ S.zi1.symm).trans q
    · exact Sv.keep h2'.1 fun o q => (sb.2 _ S.zi2.symm).trans q
    · obtain ⟨o, ho, _⟩ := ob c hcm
      rw [upd_ne (Nat.ne_of_lt (Heap.lt_size ho))]
      exact (hf c hcm).1
  done := by
    intro X hP hw hK hc i pins s σ H E I hf st hg
    subst hP hw hK
    obtain ⟨⟨f0, b, hz, hzf⟩, hTI, ⟨x0, y0, hTO⟩, h1, h2⟩ := st
    obtain ⟨xs, ys, hqx, hqy, l1, l2, hend⟩ := hg
    obtain ⟨its, hst, _, _, _, _, D1⟩ := Sv.draws I hqx t1
    obtain ⟨its2, hst2, _, _, _, _, D2⟩ := Sv.draws I hqy t2
    have hT0 : s.TypeIs (.ref z) "zip" := ⟨_, hz, rfl⟩
    unfold pyNext
    refine wpAny_bind (wpAny_attempt (wpAny_callSpecial?_slot (name := Str.ofString "__next__") hT0 F.slot_zip_next (wpAny_call_entry F.slot_zip_next hT0 F.entry_zip_next
      (zip_next_end S (D1 X.A.in1 i1 (I.ok.hd hc) n1) (D2 X.A.in1 i2 (I.ok.hd hc) n2) hz hzf hTI hTO ⟨h1, hst⟩ ⟨h2, hst2⟩ l1 l2 hend fun h' tk e hk he => ?_) (F.args_zip_next_1 _))))
    obtain ⟨o, ho, hcl⟩ := he
    refine wpAny_bind (wpAny_isInstance (T := "StopIteration") (b := true) ⟨o, ho, hcl⟩ isSubtype_stop (wpAny_pure ⟨rfl, ?_⟩))
    exact I.turnedL (t' := tk) (ch := [z, TI, TO, i1, i2]) (fun c o hb q => hk c o (fun q' => hb (by simp [q'])) (fun q' => hb (by simp [q'])) (fun q' => hb (by simp [q'])) (fun q' => hb (by simp [q'])) q) hf
  self := fun A i s Q E st h => by
    obtain ⟨⟨f0, b, hz, hzf⟩, _⟩ := st
    exact iter_zipA hz h
def iZipS (K : PySem.W.Frag) (ta : TA) : TI := fun σ H R => ta σ H fun vs H1 => ∃ k1 k2 : Sv, vs = [k1.v, k2.v] ∧ (∃ xs, k1.At K H1 xs) ∧ (∃ xs, k2.At K H1 xs) ∧ R (ItZ K k1 k2) H1
def iEnumZipS (K : PySem.W.Frag) (ta : TA) : TI := fun σ H R => ta σ H fun vs H1 => ∃ k1 k2 : Sv, vs = [k1.v, k2.v] ∧ (∃ xs, k1.At K H1 xs) ∧ (∃ xs, k2.At K H1 xs) ∧ R (ItEZ K k1 k2) H1
/-- the five cells of a zip, new -/
theorem five {N c : Addr} (h : c ∈ [N + 4, N + 2, N + 3, N, N + 1]) : N ≤ c := by
  have e' : c = N + 4 ∨ c = N + 2 ∨ c = N + 3 ∨ c = N ∨ c = N + 1 := by simpa using h
  rcases e' with z | z | z | z | z
  · rw [z]; exact Nat.le_add_right _ _
  · rw [z]; exact Nat.le_add_right _ _
  · rw [z]; exact Nat.le_add_right _ _
  · rw [z]; exact Nat.le_refl _
  · rw [z]; exact Nat.le_add_right _ _
theorem notin_sz {N c : Addr} {fp : List Addr} (h : ∀ a ∈ fp, a < N) (hc : N ≤ c) : ∀ a ∈ fp, a ≠ c := fun a ha z => absurd (h a ha) (by rw [z]; exact Nat.not_lt.mpr hc)
theorem pi_zipS {X : Cx} {e e2 : Expr} {ta : TA} {p pos tpos : Pos} {elts : List Expr} {kk : Nat} (hg : Gl X "zip") (hm : X.mg "zip" = none) (ha : PA X [e, e2] ta)
    (hs : starEach [e, e2] X.env = (false, eval e X.env) :: starEach [e2] X.env := by rfl) (hpl : (backTo pos (starEach [e2] X.env)).any (·.1) = false := by rfl) :
    PI X (.Tuple elts kk tpos) (.Call (.Name "zip" p) [e, e2] [] pos) (iZipS X.K ta) := by
  refine ⟨fun pins s σ H R I h => ?_⟩
  refine Call_ (ld_blt I hg hm PyProof.Rows.boot_zip (PyProof.Rows.callWith_type1 (thn (ha.run pos pins s σ H _ I h) fun us s1 ⟨vs, H1, I1, r1, q1⟩ => ?_) hs hpl))
  obtain ⟨k1, k2, ex, ⟨xs, hqx⟩, ⟨ys, hqy⟩, q⟩ := q1
  subst ex
  cases r1 with
  | cons r rr =>
    cases rr with
    | cons r' rr =>
      cases rr
      obtain ⟨t1, rfl⟩ := Sv.rel r
      obtain ⟨t2, rfl⟩ := Sv.rel r'
      obtain ⟨its, hst, hlt, _, _, B, D⟩ := Sv.draws I1 hqx t1
      obtain ⟨its2, hst2, hlt2, _, _, B2, D2⟩ := Sv.draws I1 hqy t2
      refine zip_begins2 B B2 hst hst2 fun h' hz hTI hTO g1 g2 hsz hk => wpAny_pyIter_zip hz ?_
      have I2 : Inv X pins σ H1 { s1 with heap := h' } := I1.kept (t' := s1.toks) hk
      exact ⟨s1.heap.objs.size + 4, [s1.heap.objs.size + 4, s1.heap.objs.size + 2, s1.heap.objs.size + 3, s1.heap.objs.size, s1.heap.objs.size + 1], _, _, H1, rfl, I2,
        turn_zipS (zip_sep2 hlt hlt2) (notin_sz hlt (Nat.le_refl _)) (notin_sz hlt2 (Nat.le_add_right _ _)), ⟨⟨.none, false, hz, .inl rfl⟩, hTI, ⟨_, _, hTO⟩, Sv.ob_it g1, Sv.ob_it g2⟩,
        fun c hc => I1.fpOk (five hc) (I1.hok.fresh (five hc)), q⟩
theorem turn_ezipS {P : Program} {w : World} {K : PySem.W.Frag} {elts : List Expr} {kk : Nat} {tpos : Pos} {k1 k2 : Sv} {t1 t2 : Tok} {e z TI TO i1 i2 : Addr} (S : ZipSep2 z TI TO i1 i2 (i1 :: k1.fp) (i2 :: k2.fp)) (n1 : ∀ a ∈ k1.fp, a ≠ i1) (n2 : ∀ a ∈ k2.fp, a ≠ i2)
    (he0 : e ∉ [z, TI, TO, i1, i2]) : Turn P w K (.Tuple elts kk tpos) (ItEZ K k1 k2) [e, z, TI, TO, i1, i2] e (fun i h => (∃ old, IsEnum h e z ((i : Nat) : Int) old) ∧ ZipSt k1 k2 t1 t2 z TI TO i1 i2 i h) where
  mem := by simp
  obj := fun i h st b hb => by
    obtain ⟨⟨old, he⟩, hz⟩ := st
    rcases List.mem_cons.mp hb with q | q
    · rw [q]; exact ⟨_, he, fun v q => nomatch q⟩
    · exact hz.obj b q
  keep := fun i h h' st g => let ⟨⟨old, he⟩, hz⟩ := st; ⟨⟨old, g e (by simp) _ he⟩, hz.keep fun b hb => g b (List.mem_cons_of_mem _ hb)⟩
  item := by
    intro X hP hw hK hc i pins s σ H E I hf st hg
    subst hP hw hK
    obtain ⟨⟨old, he⟩, zst⟩ := st
    have ob := zst.obj
    obtain ⟨⟨f0, b, hz, hzf⟩, hTI, ⟨x0, y0, hTO⟩, h1, h2⟩ := zst
    obtain ⟨xs, ys, x, y, hqx, hqy, hx, hy⟩ := hg
    obtain ⟨its, hst, _, _, _, _, D1⟩ := Sv.draws I hqx t1
    obtain ⟨its2, hst2, _, _, _, _, D2⟩ := Sv.draws I hqy t2
    have hel : e < s.heap.objs.size := Heap.lt_size he
    refine pyNext_enum_item (ch := [z, TI, TO, i1, i2]) (P := fun u tk h₁ => u = .ref s.heap.objs.size ∧ ∃ u1 u2, RelV x u1 ∧ RelV y u2 ∧ IsTupOf2 h₁ s.heap.objs.size u1 u2 ∧ ZipSt k1 k2 t1 t2 z TI TO i1 i2 (i + 1) h₁ ∧ h₁.objs.size = s.heap.objs.size + 1) he he0
      (fun Q' E' hQ' => nextOf_zip_item S (D1 _ i1 (I.ok.hd hc) n1) (D2 _ i2 (I.ok.hd hc) n2) hz hzf hTI hTO ⟨h1, hst⟩ ⟨h2, hst2⟩ (List.getElem?_eq_some_iff.mp hx).1 (List.getElem?_eq_some_iff.mp hy).1
        fun u u2 h' tk f0' b' p1 p2 z' zf' TO' h1' h2' hT hsz hk => hQ' _ h' tk ⟨rfl, u, u2, ?_, ?_, hT, ⟨⟨f0', b', z', zf'⟩, hk _ _ S.TIz S.TITO S.TIi1 S.TIi2 hTI, TO', h1'.1, h2'.1⟩, hsz⟩ (by rw [hsz]; exact Nat.le_succ _)
          fun c o hc q => hk c o (fun q' => hc (by simp [q'])) (fun q' => hc (by simp [q'])) (fun q' => hc (by simp [q'])) (fun q' => hc (by simp [q'])) q) ?_
    · obtain ⟨y1, e1, ru⟩ := p1
      rw [hx] at e1; cases e1
      exact ru
    · obtain ⟨y1, e1, ru⟩ := p2
      rw [hy] at e1; cases e1
      exact ru
    · rintro u h₁ h' tk ⟨rfl, u1, u2, r1, r2, hT, zst, hsz⟩ hle hk ho hTT hk2
      refine ⟨_, rfl, wpAny_letOwnedTupleGo_enum (s := { s with heap := h', toks := tk + 1 }) ho fun h'' he' sb => ?_⟩
      have nTe : s.heap.objs.size ≠ e := Nat.ne_of_gt hel
      have nTe2 : h₁.objs.size ≠ e := Nat.ne_of_gt (Nat.lt_of_lt_of_le hel hle)
      have all : ∀ c o, c ∉ [e, z, TI, TO, i1, i2] → s.heap.get? c = some o → h''.get? c = some o := fun c o hc q =>
        (sb.2 c (fun q' => hc (by simp [q']))).trans (hk2 c o (fun q' => hc (by simp [q'])) (hk c o (fun q' => hc (List.mem_cons_of_mem _ q')) q))
      have hT2 : h''.get? s.heap.objs.size = some { cls := .type "tuple", data := .seq #[u1, u2] } := (sb.2 _ nTe).trans (hk2 _ _ nTe hT)
      have hT3 : h''.get? h₁.objs.size = some { cls := .type "tuple", data := .seq #[.int i tk, .ref s.heap.objs.size] } := (sb.2 _ nTe2).trans hTT
      have new : ObjOk X.prog X.w (upd H s.heap.objs.size (.tup [x, y])) h'' s.heap.objs.size (.tup [x, y]) :=
        ⟨by show 2 ≤ sizeLine; decide, [u1, u2], .cons r1 (.cons r2 .nil), ⟨_, hT2, rfl, _, rfl⟩⟩
      have new1 : ObjOk X.prog X.w (upd H s.heap.objs.size (.tup [x, y])) h₁ s.heap.objs.size (.tup [x, y]) :=
        ⟨by show 2 ≤ sizeLine; decide, [u1, u2], .cons r1 (.cons r2 .nil), ⟨_, hT, rfl, _, rfl⟩⟩
      have I1 : Inv X pins σ (upd H s.heap.objs.size (.tup [x, y])) { s with heap := h₁, toks := tk } := I.turnedNew (ch := [e, z, TI, TO, i1, i2]) (fun c o hc q => hk c o (fun q' => hc (List.mem_cons_of_mem _ q')) q) hf (Nat.le_refl _) new1
      have hlt1 : s.heap.objs.size < h₁.objs.size := by rw [hsz]; exact Nat.lt_succ_self _
      have fr : upd H s.heap.objs.size (.tup [x, y]) h₁.objs.size = none := by
        rw [upd_ne (Nat.ne_of_gt hlt1)]
        exact I.hok.fresh (Nat.le_of_lt hlt1)
      have new2 : ObjOk X.prog X.w (upd (upd H s.heap.objs.size (.tup [x, y])) h₁.objs.size (.tup [.int (i : Nat), .ref s.heap.objs.size])) h'' h₁.objs.size (.tup [.int (i : Nat), .ref s.heap.objs.size]) :=
        ⟨by show 2 ≤ sizeLine; decide, [.int i tk, .ref s.heap.objs.size], .cons ⟨_, rfl⟩ (.cons rfl .nil), ⟨_, hT3, rfl, _, rfl⟩⟩
      have hf0 : ∀ b ∈ [e, z, TI, TO, i1, i2], b < s.heap.objs.size := fun b hb => by
        rcases List.mem_cons.mp hb with q | q
        · rw [q]; exact hel
        · obtain ⟨o, ho, _⟩ := ob b q
          exact Heap.lt_size ho
      have I2 : Inv X pins σ (upd (upd H s.heap.objs.size (.tup [x, y])) h₁.objs.size (.tup [.int (i : Nat), .ref s.heap.objs.size])) { s with heap := h'', toks := tk + 1 } :=
        I1.turnedNew (t' := tk + 1) (ch := [e]) (fun c o hc q => (sb.2 c (fun q' => hc (by simp [q']))).trans (hk2 c o (fun q' => hc (by simp [q'])) q)) (fun b hb => by
          have eb : b = e := by simpa using hb
          subst eb
          obtain ⟨f0, f1, f2, f3, f4, f5⟩ := hf b (by simp)
          exact ⟨by rw [upd_ne (Nat.ne_of_lt hel)]; exact f0, f1, f2, f3, f4, f5⟩) (Nat.le_refl _) new2
      refine ⟨.ref h₁.objs.size, _, I2, rfl, ⟨_, s.heap.objs.size, x, y, rfl, I.hok.fresh (Nat.le_refl _), fr, rfl, fun l hl => by rw [Sv.inj I hl hqx]; exact hx, fun l hl => by rw [Sv.inj I hl hqy]; exact hy⟩, ⟨⟨.ref s.heap.objs.size, ?_⟩, zst.keep fun c hc o q => ?_⟩, fun c hc => ?_⟩
      · have e1 : ((i + 1 : Nat) : Int) = (i : Int) + 1 := by omega
        rw [e1]; exact he'
      · have nce : c ≠ e := fun q' => he0 (q' ▸ hc)
        exact (sb.2 _ nce).trans (hk2 c o nce q)
      · have l := hf0 c hc
        rw [upd_ne (Nat.ne_of_lt (Nat.lt_trans l hlt1)), upd_ne (Nat.ne_of_lt l)]
        exact (hf c hc).1
  done := by
    intro X hP hw hK hc i pins s σ H E I hf st hg
    subst hP hw hK
    obtain ⟨⟨old, he⟩, zst⟩ := st
    obtain ⟨⟨f0, b, hz, hzf⟩, hTI, ⟨x0, y0, hTO⟩, h1, h2⟩ := zst
    obtain ⟨xs, ys, hqx, hqy, l1, l2, hend⟩ := hg
    obtain ⟨its, hst, _, _, _, _, D1⟩ := Sv.draws I hqx t1
    obtain ⟨its2, hst2, _, _, _, _, D2⟩ := Sv.draws I hqy t2
    refine pyNext_enum_end (ch := [z, TI, TO, i1, i2]) he (fun Q' E' hE' => nextOf_zip_end S (D1 _ i1 (I.ok.hd hc) n1) (D2 _ i2 (I.ok.hd hc) n2) hz hzf hTI hTO ⟨h1, hst⟩ ⟨h2, hst2⟩ l1 l2 hend
      fun h' tk x hk hx => hE' h' tk x (fun c o hc q => hk c o (fun q' => hc (by simp [q'])) (fun q' => hc (by simp [q'])) (fun q' => hc (by simp [q'])) (fun q' => hc (by simp [q'])) q) hx) fun h' tk hk => ⟨rfl, ?_⟩
    exact I.turnedL (t' := tk) (ch := [e, z, TI, TO, i1, i2]) (fun c o hb q => hk c o (fun q' => hb (List.mem_cons_of_mem _ q')) q) hf
  self := fun A i s Q E st h => let ⟨⟨_, he⟩, _⟩ := st; wpAny_pyIter_enum he h
theorem pi_ezipS {X : Cx} {e e2 : Expr} {ta : TA} {p p2 pos pos2 tpos : Pos} {elts : List Expr} {kk : Nat} (hg : Gl X "zip") (hm : X.mg "zip" = none) (hg' : Gl X "enumerate") (hm' : X.mg "enumerate" = none) (ha : PA X [e, e2] ta)
    (hs : starEach [e, e2] X.env = (false, eval e X.env) :: starEach [e2] X.env := by rfl) (hpl : (backTo pos (starEach [e2] X.env)).any (·.1) = false := by rfl)
    (hs' : starEach [.Call (.Name "zip" p) [e, e2] [] pos] X.env = [(false, eval (.Call (.Name "zip" p) [e, e2] [] pos) X.env)] := by rfl) :
    PI X (.Tuple elts kk tpos) (.Call (.Name "enumerate" p2) [.Call (.Name "zip" p) [e, e2] [] pos] [] pos2) (iEnumZipS X.K ta) := by
  refine ⟨fun pins s σ H R I h => ?_⟩
  refine Call_ (ld_blt I hg' hm' boot_enumerate (PyProof.Rows.callWith_type1 ?_ hs' rfl))
  rw [hs']
  show wpAny _ _ (spliced ((false, eval (.Call (.Name "zip" p) [e, e2] [] pos) X.env) :: backTo pos2 [])) _ _ s
  refine Calls.spliced_cons (Call_ (ld_blt I hg hm PyProof.Rows.boot_zip (PyProof.Rows.callWith_type1 (thn (ha.run pos pins s σ H _ I h) fun us s1 ⟨vs, H1, I1, r1, q1⟩ => ?_) hs hpl)))
  obtain ⟨k1, k2, ex, ⟨xs, hqx⟩, ⟨ys, hqy⟩, q⟩ := q1
  subst ex
  cases r1 with
  | cons r rr =>
    cases rr with
    | cons r' rr =>
      cases rr
      obtain ⟨t1, rfl⟩ := Sv.rel r
      obtain ⟨t2, rfl⟩ := Sv.rel r'
      obtain ⟨its, hst, hlt, _, _, B, D⟩ := Sv.draws I1 hqx t1
      obtain ⟨its2, hst2, hlt2, _, _, B2, D2⟩ := Sv.draws I1 hqy t2
      refine zip_begins2 B B2 hst hst2 fun h' hz hTI hTO g1 g2 hsz hk => ?_
      refine Calls.spliced_nil ?_
      have I2 : Inv X pins σ H1 { s1 with heap := h' } := I1.kept (t' := s1.toks) hk
      refine enum_beginsZ (s := { s1 with heap := h' }) hz fun h'' he hsz2 hk2 => wpAny_pyIter_enum he ?_
      have I3 : Inv X pins σ H1 { s1 with heap := h'' } := I2.kept (t' := s1.toks) hk2
      have h5 : h'.objs.size = s1.heap.objs.size + 5 := hsz
      have en : h'.objs.size ∉ [s1.heap.objs.size + 4, s1.heap.objs.size + 2, s1.heap.objs.size + 3, s1.heap.objs.size, s1.heap.objs.size + 1] := fun hm => by
        rw [h5] at hm
        simp at hm
      refine ⟨h'.objs.size, [h'.objs.size, s1.heap.objs.size + 4, s1.heap.objs.size + 2, s1.heap.objs.size + 3, s1.heap.objs.size, s1.heap.objs.size + 1], _, _, H1, rfl, I3,
        turn_ezipS (zip_sep2 hlt hlt2) (notin_sz hlt (Nat.le_refl _)) (notin_sz hlt2 (Nat.le_add_right _ _)) en, ⟨⟨.none, he⟩, ⟨.none, false, hk2 _ _ hz, .inl rfl⟩, hk2 _ _ hTI, ⟨_, _, hk2 _ _ hTO⟩, Sv.ob_it (hk2 _ _ g1), Sv.ob_it (hk2 _ _ g2)⟩,
        fun c hc => ?_, q⟩
      have hle : s1.heap.objs.size ≤ c := by
        rcases List.mem_cons.mp hc with z | z
        · rw [z, h5]; exact Nat.le_add_right _ _
        · exact five z
      exact I1.fpOk hle (I1.hok.fresh hle)
end NvZ
set_option Elab.async false
set_option linter.all false
set_option maxRecDepth 100000
set_option maxHeartbeats 4000000
/-! Walks as data: comprehensions, loops. -/
namespace Nv
open PySem L2 StX NvZ
section
variable {K : PySem.W.Frag} {S S' : Addr → Prop} {σ : L2.St} {H H' H1 : Hp}
def Up (K : PySem.W.Frag) (S : Addr → Prop) (H : Hp) (S' : Addr → Prop) (H' : Hp) : Prop := ∀ v d, Rp K S H v d → Rp K S' H' v d
theorem Up.refl : Up K S H S H := fun _ _ r => r
theorem Up.trans {S'' : Addr → Prop} {H'' : Hp} (a : Up K S H S' H') (b : Up K S' H' S'' H'') : Up K S H S'' H'' := fun v d r => b v d (a v d r)
theorem Up.exS (e : ExS S H H') : Up K S H S H' := fun _ _ r => r.mono e
theorem Up.ex (m : Mem S H) (e : Ex H H') : Up K S H S H' := fun _ _ r => r.mono (.of m e)
theorem Up.arr (u : Up K S H S' H') : ∀ {vs : List V} {ds : List D}, RpA K S H vs ds → RpA K S' H' vs ds
  | _, _, .nil => .nil
  | _, _, .cons r t => .cons (u _ _ r) (Up.arr u t)
/-- one more mutable object, new -/
def plus (S : Addr → Prop) (p : Addr) : Addr → Prop := fun a => S a ∨ a = p
theorem SL.plus {p a : Addr} {xs : List V} (hp : H p = none) (h : SL K S H a xs) : SL K (plus S p) H a xs := ⟨h.1, fun z => z.elim h.2 fun z => by have h1 := h.1; rw [z, hp] at h1; cases h1⟩
theorem ST.plus {p a : Addr} {xs : List V} (hp : H p = none) (h : ST K S H a xs) : ST K (plus S p) H a xs := by
  rcases h with ⟨h, n⟩ | h
  · refine .inl ⟨h, fun z => ?_⟩
    rcases z with z | z
    · exact n z
    · subst z
      rcases h with h | ⟨o, h⟩ <;> (rw [hp] at h; cases h)
  · exact .inr h
mutual
theorem Rp.plus {p : Addr} (hp : H p = none) : ∀ {d : D} {v : V}, Rp K S H v d → Rp K (plus S p) H v d
  | .non, _, h => by cases h; exact .non
  | .bl b, _, h => by cases h; exact .bl b
  | .int i, _, h => by cases h; exact .int i
  | .str x, _, h => by cases h; exact .str x
  | .lst ds, _, h => by
    cases h with
    | lst h1 h2 => exact .lst (h1.plus hp) (RpA.plus hp h2)
  | .tup ds, _, h => by
    cases h with
    | tup h1 h2 => exact .tup (h1.plus hp) (RpA.plus hp h2)
  | .dic, _, h => by
    cases h with
    | dic h1 h2 => exact .dic h1 fun z => z.elim h2 fun z => by rw [z, hp] at h1; cases h1
  | .ins C, _, h => by
    cases h with
    | ins h1 h2 => exact .ins h1 fun z => z.elim h2 fun z => by rw [z, hp] at h1; cases h1
theorem RpA.plus {p : Addr} (hp : H p = none) : ∀ {ds : List D} {vs : List V}, RpA K S H vs ds → RpA K (plus S p) H vs ds
  | [], _, h => by cases h; exact .nil
  | d :: ds, _, h => by
    cases h with
    | cons h1 h2 => exact .cons (Rp.plus hp h1) (RpA.plus hp h2)
end
/-- less mutable ones -/
theorem SL.less {a : Addr} {xs : List V} (le : ∀ a, S' a → S a) (h : SL K S H a xs) : SL K S' H a xs := ⟨h.1, fun z => h.2 (le _ z)⟩
theorem ST.less {a : Addr} {xs : List V} (le : ∀ a, S' a → S a) (h : ST K S H a xs) : ST K S' H a xs := h.imp (fun h => ⟨h.1, fun z => h.2 (le _ z)⟩) id
mutual
theorem Rp.less (le : ∀ a, S' a → S a) : ∀ {d : D} {v : V}, Rp K S H v d → Rp K S' H v d
  | .non, _, h => by cases h; exact .non
  | .bl b, _, h => by cases h; exact .bl b
  | .int i, _, h => by cases h; exact .int i
  | .str x, _, h => by cases h; exact .str x
  | .lst ds, _, h => by
    cases h with
    | lst h1 h2 => exact .lst (h1.less le) (RpA.less le h2)
  | .tup ds, _, h => by
    cases h with
    | tup h1 h2 => exact .tup (h1.less le) (RpA.less le h2)
  | .dic, _, h => by
    cases h with
    | dic h1 h2 => exact .dic h1 fun z => h2 (le _ z)
  | .ins C, _, h => by
    cases h with
    | ins h1 h2 => exact .ins h1 fun z => h2 (le _ z)
theorem RpA.less (le : ∀ a, S' a → S a) : ∀ {ds : List D} {vs : List V}, RpA K S H vs ds → RpA K S' H vs ds
  | [], _, h => by cases h; exact .nil
  | d :: ds, _, h => by
    cases h with
    | cons h1 h2 => exact .cons (Rp.less le h1) (RpA.less le h2)
end
/-- a mutable object's writing -/
theorem ExS.put {p : Addr} {o : HO} (m : Mem S H) (hp : S p) : ExS S H (upd H p o) := by
  refine ⟨fun a u n h => ?_, fun a s => ?_⟩
  · have ne : a ≠ p := fun z => n (by rw [z]; exact hp)
    rw [upd_ne ne]; exact h
  · by_cases e : a = p
    · exact ⟨o, by rw [e]; exact upd_same⟩
    · obtain ⟨u, h⟩ := m a s
      exact ⟨u, by rw [upd_ne e]; exact h⟩
/-- the walk J gives the data ds -/
def Gen (K : PySem.W.Frag) (S : Addr → Prop) (J : It) (H : Hp) (ds : List D) : Prop :=
  ∀ S' H', Mem S' H' → Up K S H S' H' → (∀ i d, ds[i]? = some d → J.go i H' ∧ ∀ x H'', J.yld i H' x H'' → Ex H' H'' ∧ Rp K S' H'' x d) ∧ J.stop ds.length H'
def EvI (K : PySem.W.Frag) (S : Addr → Prop) (wi : TI) (σ : L2.St) (H : Hp) (ds : List D) : Prop :=
  ∀ H1, Ex H H1 → ∀ R : It → Hp → Prop, (∀ J H2, Ex H1 H2 → Gen K S J H2 ds → R J H2) → wi σ H1 R
/-! ### comprehensions -/
theorem ev_lc {wi : TI} {g : TG} {tt : TT} {te : TE} {vs : List Nat} {ds : List D} {p : D → Bool} {f : D → D} (m : Mem S H) (hi : EvI K S wi σ H ds) (hl : ds.length ≤ 100000)
    (hb : ∀ S' H', Mem S' H' → Up K S H S' H' → Ex H H' → ∀ x d, d ∈ ds → Rp K S' H' x d → g x (wipe σ vs) H' fun σ2 H2 => Ex H' H2 ∧ wipe σ2 vs = wipe σ vs ∧ EvB tt σ2 H2 (p d) ∧ (p d = true → EvD K S' te σ2 H2 (f d)))
    (mono : ∀ x σ H Q Q', (∀ σ2 H2, Q σ2 H2 → Q' σ2 H2) → g x σ H Q → g x σ H Q') :
    EvD K S (tLc wi g tt te vs) σ H (.lst ((ds.filter p).map f)) := fun H1 e1 Q q => hi H1 e1 _ fun J H2 e2 gen D hD => by
  have m2 : Mem S H2 := m.ex (e1.trans e2)
  have nS : ¬ S D := m2.new hD
  have hDH : H D = none := by
    cases h : H D with
    | none => rfl
    | some o => rw [e2 _ _ (e1 _ _ h)] at hD; cases hD
  have exN : ∀ o, Ex H2 (upd H2 D o) := fun o => Evl.Ex.new hD
  have m' : Mem (plus S D) (upd H2 D (.lst [])) := fun b s => by
    rcases s with s | s
    · obtain ⟨o, h⟩ := m2 b s
      exact ⟨o, exN _ _ _ h⟩
    · exact ⟨_, by rw [s]; exact upd_same⟩
  have up0 : Up K S H2 (plus S D) (upd H2 D (.lst [])) := fun v d r => ((r.mono (.of m2 (exN (.lst [])))).less (S' := S) fun _ z => z) |> fun r' => by
    have r2 : Rp K (plus S D) H2 v d := r.plus hD
    have ex' : ExS (plus S D) H2 (upd H2 D (.lst [])) := ⟨fun a o n h => exN _ _ _ h, m'⟩
    exact r2.mono ex'
  refine ⟨fun i mm H' => mm = ds.length - i ∧ i ≤ ds.length ∧ Mem (plus S D) H' ∧ Up K S H2 (plus S D) H' ∧ Ex H2 H' ∧ ∃ acc, H' D = some (.lst acc) ∧ acc.length ≤ i ∧ RpA K (plus S D) H' acc (((ds.take i).filter p).map f), ⟨ds.length, by simp, Nat.zero_le _, m', up0, exN _, [], upd_same, Nat.le_refl _, by simp; exact .nil⟩, ?_⟩
  rintro i mm H' ⟨rfl, hile, mH, up, eH, acc, hacc, hlen, racc⟩
  obtain ⟨gi, gs⟩ := gen _ H' mH up
  by_cases hlt : i < ds.length
  · obtain ⟨d, hd⟩ : ∃ d, ds[i]? = some d := ⟨ds[i], by simp [hlt]⟩
    obtain ⟨go, gy⟩ := gi i d hd
    refine .inr ⟨go, fun H'' => i + 1 ≤ ds.length ∧ Mem (plus S D) H'' ∧ Up K S H2 (plus S D) H'' ∧ Ex H2 H'' ∧ ∃ acc, H'' D = some (.lst acc) ∧ acc.length ≤ i + 1 ∧ RpA K (plus S D) H'' acc (((ds.take (i + 1)).filter p).map f), fun H'' h => ⟨ds.length - (i + 1), by omega, rfl, h⟩, fun x H'' y => ?_⟩
    obtain ⟨ey, rx⟩ := gy x H'' y
    have mH'' := mH.ex ey
    have up'' : Up K S H (plus S D) H'' := fun v d r => (up v d (r.mono (.of m (e1.trans e2)))).mono (.of mH ey)
    refine mono _ _ _ _ _ (fun σ2 H3 ⟨e3, wp, hbB, hbE⟩ => ⟨wp, ?_⟩) (hb _ H'' mH'' up'' ((e1.trans e2).trans (eH.trans ey)) x d (List.mem_of_getElem? hd) rx)
    have tk : ds.take (i + 1) = ds.take i ++ [d] := by rw [List.take_add_one, hd]; rfl
    refine hbB H3 (Evl.Ex.refl _) _ fun H4 e4 => ?_
    have e14 : Ex H' H4 := ey.trans (e3.trans e4)
    cases hp : p d with
    | true =>
      rw [if_pos rfl]
      refine hbE hp H4 e4 _ fun v H5 e5 r5 => ⟨acc, e5 _ _ (e14 _ _ hacc), ?_, ?_⟩
      · have : sizeLine = 16777216 := sizeLine_eq
        omega
      · have m5 : Mem (plus S D) H5 := mH.ex (e14.trans e5)
        have xs5 : ExS (plus S D) H5 (upd H5 D (.lst (acc ++ [v]))) := ExS.put m5 (.inr rfl)
        refine ⟨hlt, xs5.mem, fun v' d' r => ((up v' d' r).mono (.of mH (e14.trans e5))).mono xs5, fun a o h => ?_, acc ++ [v], upd_same, by simp; omega, ?_⟩
        · rw [upd_ne (fun z => by rw [z, hD] at h; cases h)]
          exact (e14.trans e5) _ _ (eH _ _ h)
        · rw [tk]
          simp only [List.filter_append, List.map_append, List.filter_cons, hp, if_true, List.filter_nil, List.map_cons, List.map_nil]
          exact ((racc.mono (.of mH (e14.trans e5))).mono xs5).app (.cons (r5.mono xs5) .nil)
    | false =>
      rw [if_neg Bool.false_ne_true]
      refine ⟨hlt, mH.ex e14, fun v' d' r => (up v' d' r).mono (.of mH e14), eH.trans e14, acc, e14 _ _ hacc, by omega, ?_⟩
      rw [tk]
      simp only [List.filter_append, List.map_append, List.filter_cons, hp, Bool.false_eq_true, if_false, List.filter_nil, List.map_nil, List.append_nil]
      exact racc.mono (.of mH e14)
  · have e : i = ds.length := by omega
    subst e
    refine .inl ⟨gs, q _ _ (e2.trans eH) (.lst ⟨hacc, nS⟩ ?_)⟩
    rw [List.take_length] at racc
    exact racc.less fun a s => .inl s
/-! ### loops -/
theorem ts_for {wi : TI} {g : TG} {tb : TS} {E : Ends} {ds : List D} (hi : EvI K S wi σ H ds)
    (h : ∀ H2, Ex H H2 → ∃ Pv : Nat → L2.St → Hp → Prop, Pv 0 σ H2 ∧ (∀ i σ' H', Pv i σ' H' → ∃ S', Mem S' H' ∧ Up K S H2 S' H') ∧
      (∀ i d σ' H', ds[i]? = some d → Pv i σ' H' → ∀ x H'', Ex H' H'' → (∀ S', Mem S' H' → Up K S H2 S' H' → Rp K S' H'' x d) → g x σ' H'' fun σ2 H3 => tb { E with nx := Pv (i + 1), ct := Pv (i + 1), bk := E.nx } σ2 H3) ∧
      (∀ σ' H', Pv ds.length σ' H' → E.nx σ' H')) : tFor wi g tb E σ H := by
  refine hi H (Evl.Ex.refl _) _ fun J H2 e2 gen => ?_
  obtain ⟨Pv, h0, hu, hs, hd⟩ := h H2 e2
  refine ⟨fun i m σ' H' => m = ds.length - i ∧ i ≤ ds.length ∧ Pv i σ' H', ⟨ds.length, by simp, Nat.zero_le _, h0⟩, ?_⟩
  rintro i m σ' H' ⟨rfl, hi, p⟩
  obtain ⟨S', mS, up⟩ := hu i σ' H' p
  obtain ⟨gi, gs⟩ := gen S' H' mS up
  by_cases hlt : i < ds.length
  · obtain ⟨d, hd'⟩ : ∃ d, ds[i]? = some d := ⟨ds[i], by simp [hlt]⟩
    obtain ⟨go, gy⟩ := gi i d hd'
    refine .inr ⟨go, Pv (i + 1), fun σ2 H2 q => ⟨ds.length - (i + 1), by omega, rfl, hlt, q⟩, fun x H'' y => ?_⟩
    exact hs i d σ' H' hd' p x H'' (gy x H'' y).1 fun S2 m2 u2 => ((gen S2 H' m2 u2).1 i d hd').2 x H'' y |>.2
  · have e : i = ds.length := by omega
    subst e
    exact .inl ⟨gs, hd σ' H' p⟩
/-! ### the sources -/
/-- a source that gives data -/
def Rs (K : PySem.W.Frag) (S : Addr → Prop) (H : Hp) (k : Sv) (ds : List D) : Prop := ∃ xs, k.At K H xs ∧ RpA K S H xs ds
theorem str_arr {x : Str} : RpA K S H (x.cps.toList.map fun c => V.str ⟨#[c]⟩) (x.cps.toList.map fun c => D.str ⟨#[c]⟩) := by
  have h := rpA_strs (K := K) (S := S) (H := H) (x.cps.toList.map fun c => (⟨#[c]⟩ : Str))
  rw [List.map_map, List.map_map] at h
  exact h
/-- data that can be walked -/
def items : D → List D
  | .lst ds => ds
  | .tup ds => ds
  | .str x => x.cps.toList.map fun c => D.str ⟨#[c]⟩
  | _ => []
def walks : D → Bool
  | .lst _ => true
  | .tup _ => true
  | .str _ => true
  | _ => false
/-- the source of a value, whatever happens to the heap -/
theorem src {v : V} {d : D} (w : walks d = true) (r : Rp K S H v d) : ∃ k : Sv, v = k.v ∧ ∀ S' H', Up K S H S' H' → Rs K S' H' k (items d) := by
  cases r with
  | @lst a xs ds h1 h2 =>
    refine ⟨.l a, rfl, fun S' H' u => ?_⟩
    have r' := u _ _ (.lst h1 h2)
    cases r' with
    | lst h3 h4 => exact ⟨_, h3.sq, h4⟩
  | @tup a xs ds h1 h2 =>
    refine ⟨.t a, rfl, fun S' H' u => ?_⟩
    have r' := u _ _ (.tup h1 h2)
    cases r' with
    | tup h3 h4 => exact ⟨_, h3.sq, h4⟩
  | str x => exact ⟨.s x, rfl, fun S' H' u => ⟨_, rfl, str_arr⟩⟩
  | non => cases w
  | bl => cases w
  | int => cases w
  | dic => cases w
  | ins => cases w
theorem gen_S {k : Sv} {ds : List D} (h : ∀ S' H', Up K S H S' H' → Rs K S' H' k ds) : Gen K S (ItS K k) H ds := fun S' H' mS up => by
  obtain ⟨xs, hq, rA⟩ := h S' H' up
  have hl := rA.length
  constructor
  · intro i d hd
    obtain ⟨x, hx, rx⟩ := rA.get hd
    cases k with
    | l a => exact ⟨⟨xs, x, hq, hx⟩, fun y H'' ⟨e, hy⟩ => by
        subst e
        have := hy xs hq
        rw [hx] at this; cases this
        exact ⟨Evl.Ex.refl _, rx⟩⟩
    | t a => exact ⟨⟨xs, x, hq, hx⟩, fun y H'' ⟨e, hy⟩ => by
        subst e
        have := hy xs hq
        rw [hx] at this; cases this
        exact ⟨Evl.Ex.refl _, rx⟩⟩
    | s z =>
      have hz : xs = z.cps.toList.map fun c => .str ⟨#[c]⟩ := hq
      have hi : i < z.cps.size := by
        have := (List.getElem?_eq_some_iff.mp hx).1
        rw [hz] at this; simpa using this
      refine ⟨hi, fun y H'' ⟨e, c, hc, hy⟩ => ?_⟩
      subst e
      refine ⟨Evl.Ex.refl _, ?_⟩
      have : x = y := by
        rw [hz] at hx
        simp [hc] at hx
        rw [← hx, hy]
      rw [← this]; exact rx
  · cases k with
    | l a => exact ⟨xs, hq, by omega⟩
    | t a => exact ⟨xs, hq, by omega⟩
    | s z =>
      have hz : xs = z.cps.toList.map fun c => .str ⟨#[c]⟩ := hq
      show z.cps.size ≤ ds.length
      rw [← hl, hz]; simp
theorem gen_E {k : Sv} {ds : List D} (h : ∀ S' H', Up K S H S' H' → Rs K S' H' k ds) : Gen K S (ItE K k) H (ds.mapIdx fun i d => .tup [.int i, d]) := fun S' H' mS up => by
  obtain ⟨xs, hq, rA⟩ := h S' H' up
  have hl := rA.length
  constructor
  · intro i d hd
    simp only [List.getElem?_mapIdx, Option.map_eq_some_iff] at hd
    obtain ⟨d', hd', rfl⟩ := hd
    obtain ⟨x, hx, rx⟩ := rA.get hd'
    refine ⟨⟨xs, x, hq, hx⟩, fun y H'' ⟨T, x', ey, hT, eH, hx'⟩ => ?_⟩
    have := hx' xs hq
    rw [hx] at this; cases this
    subst ey eH
    exact ⟨Evl.Ex.new hT, .newT mS (.cons (.int _) (.cons rx .nil)) hT⟩
  · exact ⟨xs, hq, by simp [hl]⟩
theorem gen_Z {k1 k2 : Sv} {ds es : List D} (h1 : ∀ S' H', Up K S H S' H' → Rs K S' H' k1 ds) (h2 : ∀ S' H', Up K S H S' H' → Rs K S' H' k2 es) : Gen K S (ItZ K k1 k2) H ((ds.zip es).map fun p => .tup [p.1, p.2]) := fun S' H' mS up => by
  obtain ⟨xs, hq, rA⟩ := h1 S' H' up
  obtain ⟨ys, hq2, rA2⟩ := h2 S' H' up
  have hl := rA.length
  have hl2 := rA2.length
  constructor
  · intro i d hd
    simp only [List.getElem?_map, Option.map_eq_some_iff] at hd
    obtain ⟨⟨d1, d2⟩, hd', rfl⟩ := hd
    rw [List.getElem?_zip_eq_some] at hd'
    obtain ⟨x, hx, rx⟩ := rA.get hd'.1
    obtain ⟨y, hy, ry⟩ := rA2.get hd'.2
    refine ⟨⟨xs, ys, x, y, hq, hq2, hx, hy⟩, fun z H'' ⟨T, x', y', ey, hT, eH, hx', hy'⟩ => ?_⟩
    have q1 := hx' xs hq
    rw [hx] at q1; cases q1
    have q2 := hy' ys hq2
    rw [hy] at q2; cases q2
    subst ey eH
    exact ⟨Evl.Ex.new hT, .newT mS (.cons rx (.cons ry .nil)) hT⟩
  · refine ⟨xs, ys, hq, hq2, ?_, ?_, ?_⟩ <;> (simp; omega)
theorem gen_EZ {k1 k2 : Sv} {ds es : List D} (h1 : ∀ S' H', Up K S H S' H' → Rs K S' H' k1 ds) (h2 : ∀ S' H', Up K S H S' H' → Rs K S' H' k2 es) : Gen K S (ItEZ K k1 k2) H ((ds.zip es).mapIdx fun i p => .tup [.int i, .tup [p.1, p.2]]) := fun S' H' mS up => by
  obtain ⟨xs, hq, rA⟩ := h1 S' H' up
  obtain ⟨ys, hq2, rA2⟩ := h2 S' H' up
  have hl := rA.length
  have hl2 := rA2.length
  constructor
  · intro i d hd
    simp only [List.getElem?_mapIdx, Option.map_eq_some_iff] at hd
    obtain ⟨⟨d1, d2⟩, hd', rfl⟩ := hd
    rw [List.getElem?_zip_eq_some] at hd'
    obtain ⟨x, hx, rx⟩ := rA.get hd'.1
    obtain ⟨y, hy, ry⟩ := rA2.get hd'.2
    refine ⟨⟨xs, ys, x, y, hq, hq2, hx, hy⟩, fun z H'' ⟨T, U, x', y', ey, hU, hT, eH, hx', hy'⟩ => ?_⟩
    have q1 := hx' xs hq
    rw [hx] at q1; cases q1
    have q2 := hy' ys hq2
    rw [hy] at q2; cases q2
    subst ey eH
    exact ⟨(Evl.Ex.new hU).trans (Evl.Ex.new hT), .newT (mS.ex (Evl.Ex.new hU)) (.cons (.int _) (.cons (.newT mS (.cons rx (.cons ry .nil)) hU) .nil)) hT⟩
  · refine ⟨xs, ys, hq, hq2, ?_, ?_, ?_⟩ <;> (simp; omega)
theorem gen_R {lo : Int} {n : Nat} : Gen K S (Itr lo n) H ((List.range n).map fun i : Nat => .int (lo + i)) := fun S' H' mS up => by
  constructor
  · intro i d hd
    simp only [List.getElem?_map, Option.map_eq_some_iff] at hd
    obtain ⟨j, hj, rfl⟩ := hd
    obtain ⟨hi, e⟩ := List.getElem?_eq_some_iff.mp hj
    have hi' : i < n := by simpa using hi
    have e' : i = j := by simpa using e
    subst e'
    exact ⟨hi', fun x H'' ⟨e1, e2⟩ => by subst e1 e2; exact ⟨Evl.Ex.refl _, .int _⟩⟩
  · show n ≤ _
    simp
theorem ei_seq {te : TE} {d : D} (m : Mem S H) (h : EvD K S te σ H d) (w : walks d = true) : EvI K S (iSeq K te) σ H (items d) := fun H1 e1 R q => h H1 e1 _ fun v H2 e2 r2 => by
  obtain ⟨k, ev, hk⟩ := src w r2
  obtain ⟨xs, hx, _⟩ := hk S H2 Up.refl
  exact ⟨k, ev, ⟨xs, hx⟩, q _ H2 e2 (gen_S hk)⟩
theorem ei_enum {ta : TA} {d : D} (m : Mem S H) (h : EvA K S ta σ H [d]) (w : walks d = true) : EvI K S (iEnumS K ta) σ H ((items d).mapIdx fun i d => .tup [.int i, d]) := fun H1 e1 R q => h H1 e1 _ fun vs H2 e2 r2 => by
  cases r2 with
  | cons r2 rn =>
    cases rn
    obtain ⟨k, ev, hk⟩ := src w r2
    subst ev
    obtain ⟨xs, hx, _⟩ := hk S H2 Up.refl
    exact ⟨k, rfl, ⟨xs, hx⟩, q _ H2 e2 (gen_E hk)⟩
theorem ei_zip {ta : TA} {d d2 : D} (m : Mem S H) (h : EvA K S ta σ H [d, d2]) (w : walks d = true) (w2 : walks d2 = true) : EvI K S (iZipS K ta) σ H (((items d).zip (items d2)).map fun p => .tup [p.1, p.2]) := fun H1 e1 R q => h H1 e1 _ fun vs H2 e2 r2 => by
  cases r2 with
  | cons r2 rn =>
    cases rn with
    | cons r3 rn =>
      cases rn
      obtain ⟨k, ev, hk⟩ := src w r2
      obtain ⟨k2, ev2, hk2⟩ := src w2 r3
      subst ev ev2
      obtain ⟨xs, hx, _⟩ := hk S H2 Up.refl
      obtain ⟨ys, hy, _⟩ := hk2 S H2 Up.refl
      exact ⟨k, k2, rfl, ⟨xs, hx⟩, ⟨ys, hy⟩, q _ H2 e2 (gen_Z hk hk2)⟩
theorem ei_ezip {ta : TA} {d d2 : D} (m : Mem S H) (h : EvA K S ta σ H [d, d2]) (w : walks d = true) (w2 : walks d2 = true) : EvI K S (iEnumZipS K ta) σ H (((items d).zip (items d2)).mapIdx fun i p => .tup [.int i, .tup [p.1, p.2]]) := fun H1 e1 R q => h H1 e1 _ fun vs H2 e2 r2 => by
  cases r2 with
  | cons r2 rn =>
    cases rn with
    | cons r3 rn =>
      cases rn
      obtain ⟨k, ev, hk⟩ := src w r2
      obtain ⟨k2, ev2, hk2⟩ := src w2 r3
      subst ev ev2
      obtain ⟨xs, hx, _⟩ := hk S H2 Up.refl
      obtain ⟨ys, hy, _⟩ := hk2 S H2 Up.refl
      exact ⟨k, k2, rfl, ⟨xs, hx⟩, ⟨ys, hy⟩, q _ H2 e2 (gen_EZ hk hk2)⟩
theorem ei_range1 {ta : TA} {n : Int} (h : EvA K S ta σ H [.int n]) (h1 : -(2 ^ 62) ≤ n) (h2 : n < 2 ^ 62) : EvI K S (iRng1 ta) σ H ((List.range n.toNat).map fun i : Nat => .int (0 + i)) := fun H1 e1 R q => h H1 e1 _ fun vs H2 e2 r2 => by
  cases r2 with
  | cons r2 rn =>
    cases rn; cases r2
    exact ⟨n, rfl, h1, h2, q _ H2 e2 gen_R⟩
theorem ei_range2 {ta : TA} {lo hi : Int} (h : EvA K S ta σ H [.int lo, .int hi]) (h1 : -(2 ^ 62) ≤ lo) (h2 : lo < 2 ^ 62) (h3 : -(2 ^ 62) ≤ hi) (h4 : hi < 2 ^ 62) : EvI K S (iRng2 ta) σ H ((List.range (hi - lo).toNat).map fun i : Nat => .int (lo + i)) := fun H1 e1 R q => h H1 e1 _ fun vs H2 e2 r2 => by
  cases r2 with
  | cons r2 rn =>
    cases rn with
    | cons r3 rn =>
      cases rn; cases r2; cases r3
      exact ⟨lo, hi, rfl, ⟨h1, h2, h3, h4⟩, q _ H2 e2 gen_R⟩
end
end Nv
set_option Elab.async false
set_option linter.all false
set_option maxRecDepth 100000
set_option maxHeartbeats 4000000
/-! More rules on data. -/
namespace Nv
open PySem L2 StX NvZ
section
variable {K : PySem.W.Frag} {S S' : Addr → Prop} {σ : L2.St} {H H' H1 : Hp} {te ta tb : TE} {d d1 d2 : D}
/-! ### slices -/
def cutD (xs : List D) (lo hi : Option Int) : List D := (xs.drop (HT.sIx xs.length 0 lo)).take (HT.sIx xs.length xs.length hi - HT.sIx xs.length 0 lo)
theorem RpA.cut {vs : List V} {ds : List D} (lo hi : Option Int) (h : RpA K S H vs ds) : RpA K S H (cutV vs lo hi) (cutD ds lo hi) := by
  unfold cutV cutD
  rw [h.length]
  exact (h.drop _).take _
theorem cutD_length (ds : List D) (lo hi : Option Int) : (cutD ds lo hi).length ≤ ds.length := by
  unfold cutD
  rw [List.length_take, List.length_drop]; omega
theorem cut_from {ds : List D} {n : Nat} (hn : n ≤ ds.length) : cutD ds (some (n : Int)) none = ds.drop n := by
  unfold cutD
  rw [HT.sIx_nat, HT.sIx_none, Nat.min_eq_left hn]
  exact List.take_of_length_le (by rw [List.length_drop]; exact Nat.le_refl _)
theorem cut_to {ds : List D} {n : Nat} (hn : n ≤ ds.length) : cutD ds none (some (n : Int)) = ds.take n := by
  unfold cutD
  rw [HT.sIx_nat, HT.sIx_none, Nat.min_eq_left hn]
  simp
theorem cut_last {ds : List D} : cutD ds none (some (-1)) = ds.take (ds.length - 1) := by
  unfold cutD
  rw [HT.sIx_none]
  have : HT.sIx ds.length ds.length (some (-1)) = ds.length - 1 := by
    show (if (-1 : Int) < 0 then ((-1 : Int) + (ds.length : Int)).toNat else min (-1 : Int).toNat ds.length) = _
    rw [if_pos (by decide)]; omega
  rw [this]; simp
def rSl (K : PySem.W.Frag) : V → Option Int → Option Int → Hp → VK → Prop := fun x lo hi H Q => rSlL K x lo hi H Q ∨ rSlT K x lo hi H Q
theorem sl_seq {X : Cx} : SlR X (rSl X.K) := sl_list.or sl_tup
theorem EvO.mono {to : TO} {o : Option Int} (e : Ex H H') (h : EvO to σ H o) : EvO to σ H' o := fun H1 a Q q => h H1 (e.trans a) Q q
theorem eo_none : EvO tNoPart σ H none := fun H1 _ Q q => q H1 (Evl.Ex.refl _)
theorem eo_some {i : Int} (h : EvD K S te σ H (.int i)) : EvO (tPart te) σ H (some i) := fun H1 e Q q => h H1 e _ fun v H2 e2 r2 => by cases r2; exact ⟨i, rfl, q H2 e2⟩
theorem ev_slL {tl th : TO} {ds : List D} {lo hi : Option Int} (m : Mem S H) (h : EvD K S te σ H (.lst ds)) (hl : EvO tl σ H lo) (hh : EvO th σ H hi) : EvD K S (tSl (rSl K) te tl th) σ H (.lst (cutD ds lo hi)) := fun H1 e Q q =>
  h H1 e _ fun v H2 e2 r2 => hl H2 (e.trans e2) _ fun H3 e3 => hh H3 ((e.trans e2).trans e3) _ fun H4 e4 => by
    have r4 := r2.mono (.of (m.ex (e.trans e2)) (e3.trans e4))
    cases r4 with
    | @lst a xs _ h1 h2 =>
      exact .inl ⟨a, xs, rfl, h1.sq, fun p hp => q _ _ (((e2.trans e3).trans e4).trans (Evl.Ex.new hp)) (.newL (m.ex (((e.trans e2).trans e3).trans e4)) (h2.cut lo hi) hp)⟩
theorem ev_slT {tl th : TO} {ds : List D} {lo hi : Option Int} (m : Mem S H) (h : EvD K S te σ H (.tup ds)) (hl : EvO tl σ H lo) (hh : EvO th σ H hi) (hw : ¬ (HT.sIx ds.length 0 lo = 0 ∧ HT.sIx ds.length ds.length hi = ds.length)) : EvD K S (tSl (rSl K) te tl th) σ H (.tup (cutD ds lo hi)) := fun H1 e Q q =>
  h H1 e _ fun v H2 e2 r2 => hl H2 (e.trans e2) _ fun H3 e3 => hh H3 ((e.trans e2).trans e3) _ fun H4 e4 => by
    have r4 := r2.mono (.of (m.ex (e.trans e2)) (e3.trans e4))
    cases r4 with
    | @tup a xs _ h1 h2 =>
      refine .inr ⟨a, xs, rfl, h1.sq, ?_, fun p hp => q _ _ (((e2.trans e3).trans e4).trans (Evl.Ex.new hp)) (.newT (m.ex (((e.trans e2).trans e3).trans e4)) (h2.cut lo hi) hp)⟩
      rw [h2.length]; exact hw
/-! ### len -/
def lenD : D → Nat
  | .lst ds => ds.length
  | .tup ds => ds.length
  | .str x => x.length
  | _ => 0
def lenOk : D → Bool
  | .lst _ => true
  | .tup _ => true
  | .str x => decide (x.length ≤ 16777216)
  | _ => false
def rLenV (K : PySem.W.Frag) : List V → Hp → VK → Prop := fun xs H Q => ∃ x n, xs = [x] ∧ LenV K x H n ∧ Q (.int n) H
theorem ra_len (h : lenOk d = true) : RAD K S (rLenV K) H [d] (.int (lenD d)) := fun H1 _ vs r Q q => by
  cases r with
  | @cons v d vs ds r rn =>
    cases rn
    refine ⟨v, lenD d, rfl, ?_, q _ _ (Evl.Ex.refl _) (.int _)⟩
    cases r with
    | lst h1 h2 => exact .inl ⟨_, h1.sq, h2.length.symm⟩
    | tup h1 h2 => exact .inr ⟨_, h1.sq, h2.length.symm⟩
    | str x => exact ⟨by rw [sizeLine_eq]; exact of_decide_eq_true h, rfl⟩
    | non => cases h
    | bl => cases h
    | int => cases h
    | dic => cases h
    | ins => cases h
/-! ### items -/
theorem r_ixL {ds : List D} {j : Nat} (h : ds[j]? = some d) : R2D K S (rIx K) H (.lst ds) (.int j) d := fun H1 _ x y rx ry Q q => by
  cases ry
  cases rx with
  | @lst a xs _ h1 h2 =>
    obtain ⟨v, hv, rv⟩ := h2.get h
    exact .inl ⟨a, xs, j, v, rfl, rfl, h1.sq, atI_nat hv, q _ _ (Evl.Ex.refl _) rv⟩
theorem r_ixT {ds : List D} {j : Nat} (h : ds[j]? = some d) : R2D K S (rIx K) H (.tup ds) (.int j) d := fun H1 _ x y rx ry Q q => by
  cases ry
  cases rx with
  | @tup a xs _ h1 h2 =>
    obtain ⟨v, hv, rv⟩ := h2.get h
    exact .inr (.inl ⟨a, xs, j, v, rfl, rfl, h1.sq, atI_nat hv, q _ _ (Evl.Ex.refl _) rv⟩)
theorem r_ixS {x : Str} {j c : Nat} (hz : x.length ≤ 16777216) (h : x.cps[j]? = some c) : R2D K S (rIx K) H (.str x) (.int j) (.str ⟨#[c]⟩) := fun H1 _ x y rx ry Q q => by
  cases ry; cases rx
  exact .inr (.inr ⟨_, j, c, rfl, rfl, by rw [sizeLine_eq]; exact hz, atI_nat (by simpa using h), q _ _ (Evl.Ex.refl _) (.str _)⟩)
/-! ### in -/
theorem inV_strs {x : Str} {ws : List Str} : inV (.str x) (ws.map V.str) = decide (x ∈ ws) := by
  unfold inV
  induction ws with
  | nil => rfl
  | cons w ws ih =>
    rw [List.map_cons, List.any_cons, ih]
    show ((w == x) || _) = _
    by_cases e : x = w
    · subst e; simp
    · have : (w == x) = false := by simp; exact fun z => e z.symm
      rw [this]; simp [e]
theorem flat_strs (ws : List Str) : (ws.map V.str).all flatV = true := by
  induction ws with
  | nil => rfl
  | cons w ws ih => rw [List.map_cons, List.all_cons, ih]; rfl
/-- a list or tuple of texts -/
def strsD : D → Option (List Str)
  | .lst ds => some (ds.filterMap fun d => match d with | .str x => some x | _ => none)
  | _ => none
theorem r_inL {neg : Bool} {x : Str} {ws : List Str} : R2D K S (rIn K neg) H (.str x) (.lst (ws.map D.str)) (.bl (if neg then !decide (x ∈ ws) else decide (x ∈ ws))) := fun H1 _ u y rx ry Q q => by
  cases rx
  cases ry with
  | @lst a xs _ h1 h2 =>
    obtain rfl := h2.strs
    refine ⟨a, _, rfl, .inl h1.sq, rfl, flat_strs ws, q _ _ (Evl.Ex.refl _) ?_⟩
    rw [inV_strs]; exact .bl _
theorem r_inT {neg : Bool} {x : Str} {ws : List Str} : R2D K S (rIn K neg) H (.str x) (.tup (ws.map D.str)) (.bl (if neg then !decide (x ∈ ws) else decide (x ∈ ws))) := fun H1 _ u y rx ry Q q => by
  cases rx
  cases ry with
  | @tup a xs _ h1 h2 =>
    obtain rfl := h2.strs
    refine ⟨a, _, rfl, .inr h1.sq, rfl, flat_strs ws, q _ _ (Evl.Ex.refl _) ?_⟩
    rw [inV_strs]; exact .bl _
/-! ### == of data -/
mutual
def pd : D → PyData
  | .non => .none
  | .bl b => .bool b
  | .int i => .int i
  | .str x => .str x
  | .lst ds => .list (pdA ds)
  | .tup ds => .tuple (pdA ds)
  | .dic => .none
  | .ins _ => .none
def pdA : List D → List PyData
  | [] => []
  | d :: ds => pd d :: pdA ds
end
mutual
def plainD : D → Bool
  | .lst ds => plainA ds
  | .tup ds => plainA ds
  | .dic => false
  | .ins _ => false
  | .str x => PyData.strOk x
  | _ => true
def plainA : List D → Bool
  | [] => true
  | d :: ds => plainD d && plainA ds
end
mutual
theorem Rp.dp : ∀ {d : D} {v : V}, plainD d = true → Rp K S H v d → Dp K H v (pd d)
  | .non, _, _, h => by cases h; exact .non
  | .bl b, _, _, h => by cases h; exact .bl b
  | .int i, _, _, h => by cases h; exact .int i
  | .str x, _, _, h => by cases h; exact .str x
  | .lst ds, _, p, h => by
    cases h with
    | lst h1 h2 => exact .lst h1.sq (RpA.dp p h2)
  | .tup ds, _, p, h => by
    cases h with
    | tup h1 h2 => exact .tup h1.sq (RpA.dp p h2)
  | .dic, _, p, h => nomatch p
  | .ins C, _, p, h => nomatch p
theorem RpA.dp : ∀ {ds : List D} {vs : List V}, plainA ds = true → RpA K S H vs ds → DpAll K H vs (pdA ds)
  | [], _, _, h => by cases h; exact .nil
  | d :: ds, _, p, h => by
    have p' : plainD d = true ∧ plainA ds = true := by simpa [plainA] using p
    cases h with
    | cons h1 h2 => exact .cons (Rp.dp p'.1 h1) (RpA.dp p'.2 h2)
end
mutual
theorem lay_pd : ∀ d : D, plainD d = true → (pd d).canLay0 = true
  | .non, _ => rfl
  | .bl _, _ => rfl
  | .int _, _ => rfl
  | .str _, h => h
  | .lst ds, h => by simp only [pd, PyData.canLay0]; exact lay_pdA ds h
  | .tup ds, h => by simp only [pd, PyData.canLay0]; exact lay_pdA ds h
  | .dic, _ => rfl
  | .ins _, _ => rfl
theorem lay_pdA : ∀ ds : List D, plainA ds = true → PyData.canLayAll0 (pdA ds) = true
  | [], _ => rfl
  | d :: ds, h => by
    have p' : plainD d = true ∧ plainA ds = true := by simpa [plainA] using h
    simp only [pdA, PyData.canLayAll0, lay_pd d p'.1, lay_pdA ds p'.2, Bool.and_self]
end
mutual
def dep : D → Nat
  | .lst ds => depA ds + 1
  | .tup ds => depA ds + 1
  | _ => 0
def depA : List D → Nat
  | [] => 0
  | d :: ds => max (dep d) (depA ds)
end
mutual
theorem dep_pd : ∀ d : D, (pd d).depth = dep d
  | .non => rfl
  | .bl _ => rfl
  | .int _ => rfl
  | .str _ => rfl
  | .lst ds => by simp only [pd, PyData.depth, dep, dep_pdA ds]
  | .tup ds => by simp only [pd, PyData.depth, dep, dep_pdA ds]
  | .dic => rfl
  | .ins _ => rfl
theorem dep_pdA : ∀ ds : List D, PyData.depthAll (pdA ds) = depA ds
  | [] => rfl
  | d :: ds => by simp only [pdA, PyData.depthAll, depA, dep_pd d, dep_pdA ds]
end
theorem shp (p : plainD d = true) (h : dep d ≤ 64) : SeqAt.shaped (pd d) = true := by
  unfold SeqAt.shaped
  rw [lay_pd d p, dep_pd]
  simpa using h
def eqD (d e : D) : Bool := PyData.eqv (pd d) (pd e)
theorem r_eqD (p1 : plainD d1 = true) (p2 : plainD d2 = true) (h1 : dep d1 ≤ 64) (h2 : dep d2 ≤ 64) : R2D K S (rEqD K) H d1 d2 (.bl (eqD d1 d2)) := fun H1 _ x y rx ry Q q =>
  ⟨_, _, rx.dp p1, ry.dp p2, shp p1 h1, shp p2 h2, q _ _ (Evl.Ex.refl _) (.bl _)⟩
theorem r_neD (p1 : plainD d1 = true) (p2 : plainD d2 = true) (h1 : dep d1 ≤ 64) (h2 : dep d2 ≤ 64) : R2D K S (rNeD K) H d1 d2 (.bl (!eqD d1 d2)) := fun H1 _ x y rx ry Q q =>
  ⟨_, _, rx.dp p1, ry.dp p2, shp p1 h1, shp p2 h2, q _ _ (Evl.Ex.refl _) (.bl _)⟩
/-! ### all, str, int, tuple, join, split -/
theorem ra_all {bs : List Bool} : RAD K S (rAll K) H [.lst (bs.map D.bl)] (.bl (bs.all id)) := fun H1 _ vs r Q q => by
  cases r with
  | cons r rn =>
    cases rn
    cases r with
    | @lst a xs _ h1 h2 =>
      obtain rfl := h2.bools
      exact ⟨a, bs, rfl, h1.sq, q _ _ (Evl.Ex.refl _) (.bl _)⟩
def istr (i : Int) : Str := toString i
def rStrI : List V → Hp → VK → Prop := fun xs H Q => ∃ i : Int, xs = [.int i] ∧ i.natAbs.log2 < 1920 ∧ Q (.str (toString i)) H
theorem ra_str {i : Int} (h : i.natAbs.log2 < 1920) : RAD K S rStrI H [.int i] (.str (istr i)) := fun H1 _ vs r Q q => by
  cases r with
  | cons r rn => cases rn; cases r; exact ⟨i, rfl, h, q _ _ (Evl.Ex.refl _) (.str _)⟩
def rIntI : List V → Hp → VK → Prop := fun xs H Q => (∃ i, xs = [.int i] ∧ Q (.int i) H) ∨ ∃ k, xs = [.bl k] ∧ Q (.int (if k then 1 else 0)) H
theorem ra_int {i : Int} : RAD K S rIntI H [.int i] (.int i) := fun H1 _ vs r Q q => by
  cases r with
  | cons r rn => cases rn; cases r; exact .inl ⟨i, rfl, q _ _ (Evl.Ex.refl _) (.int _)⟩
theorem ra_intB {k : Bool} : RAD K S rIntI H [.bl k] (.int (if k then 1 else 0)) := fun H1 _ vs r Q q => by
  cases r with
  | cons r rn => cases rn; cases r; exact .inr ⟨k, rfl, q _ _ (Evl.Ex.refl _) (.int _)⟩
def rIntS : List V → Hp → VK → Prop := fun xs H Q => ∃ a n, xs = [.str a] ∧ PySem.intText? a = some n ∧ a.length ≤ 640 ∧ Q (.int n) H
theorem ra_intS {a : Str} {n : Int} (h : PySem.intText? a = some n) (hl : a.length ≤ 640) : RAD K S rIntS H [.str a] (.int n) := fun H1 _ vs r Q q => by
  cases r with
  | cons r rn => cases rn; cases r; exact ⟨a, n, rfl, h, hl, q _ _ (Evl.Ex.refl _) (.int _)⟩
def rTupOf (K : PySem.W.Frag) : List V → Hp → VK → Prop := fun xs H Q => ∃ p ys, xs = [.ref p] ∧ ((SqL K H p ys ∧ ∀ l, H l = none → Q (.ref l) (upd H l (.tup ys))) ∨ (SqT K H p ys ∧ Q (.ref p) H))
theorem ra_tup {ds : List D} (m : Mem S H) : RAD K S (rTupOf K) H [.lst ds] (.tup ds) := fun H1 e vs r Q q => by
  cases r with
  | cons r rn =>
    cases rn
    cases r with
    | @lst a xs _ h1 h2 => exact ⟨a, xs, rfl, .inl ⟨h1.sq, fun p hp => q _ _ (Evl.Ex.new hp) (.newT (m.ex e) h2 hp)⟩⟩
def rJoin (K : PySem.W.Frag) : V → List V → Hp → VK → Prop := fun x xs H Q => ∃ a p, ∃ ys : List Str, x = .str a ∧ xs = [.ref p] ∧ (SqL K H p (ys.map V.str) ∨ SqT K H p (ys.map V.str)) ∧
      (ys.map (·.length)).sum + ys.length * a.length ≤ 16777216 ∧ Q (.str (Txt.join a ys)) H
theorem ev_join {a : Str} {ys : List Str} (m : Mem S H) (h1 : EvD K S ta σ H (.str a)) (h2 : EvD K S tb σ H (.lst (ys.map D.str))) (hz : (ys.map (·.length)).sum + ys.length * a.length ≤ 16777216) : EvD K S (tM1 (rJoin K) ta tb) σ H (.str (Txt.join a ys)) := fun H1 e Q q =>
  h1 H1 e _ fun v H2 e2 r2 => by
    cases r2
    refine ⟨⟨_, rfl⟩, h2 H2 (e.trans e2) _ fun w H3 e3 r3 => ?_⟩
    cases r3 with
    | @lst p xs _ h3 h4 =>
      obtain rfl := h4.strs
      exact ⟨a, p, ys, rfl, rfl, .inl h3.sq, hz, q _ _ (e2.trans e3) (.str _)⟩
def rSplit : V → List V → Hp → VK → Prop := fun x xs H Q => ∃ a b, x = .str a ∧ xs = [.str b] ∧ (b.length == 0) = false ∧ a.length + 2 ≤ sizeLine ∧ rNewStrs (Txt.split a b) H Q
theorem ev_split {a b : Str} (m : Mem S H) (h1 : EvD K S ta σ H (.str a)) (h2 : EvD K S tb σ H (.str b)) (hb : (b.length == 0) = false) (hz : a.length ≤ 16777214) : EvD K S (tM1 rSplit ta tb) σ H (.lst ((Txt.split a b).map D.str)) := fun H1 e Q q =>
  h1 H1 e _ fun v H2 e2 r2 => by
    cases r2
    refine ⟨⟨_, rfl⟩, h2 H2 (e.trans e2) _ fun w H3 e3 r3 => ?_⟩
    cases r3
    refine ⟨a, b, rfl, rfl, hb, by rw [sizeLine_eq]; omega, fun p hp => q _ _ ((e2.trans e3).trans (Evl.Ex.new hp)) (.newL (m.ex ((e.trans e2).trans e3)) (rpA_strs _) hp)⟩
/-! ### + -/
theorem r_cat {ds es : List D} (m : Mem S H) (hz : ds.length + es.length ≤ 100000) : R2D K S rCat H (.lst ds) (.lst es) (.lst (ds ++ es)) := fun H1 e x y rx ry Q q => by
  cases rx with
  | @lst a xs _ h1 h2 =>
    cases ry with
    | @lst b ys _ h3 h4 =>
      exact ⟨a, b, xs, ys, rfl, rfl, h1.1, h3.1, by rw [h2.length, h4.length, sizeLine_eq]; omega, fun p hp => q _ _ (Evl.Ex.new hp) (.newL (m.ex e) (h2.app h4) hp)⟩
theorem r_catT {ds es : List D} (m : Mem S H) (h0 : ds ≠ []) (h1 : es ≠ []) (hz : ds.length + es.length ≤ 100000) : R2D K S (rCatT K) H (.tup ds) (.tup es) (.tup (ds ++ es)) := fun H1 e x y rx ry Q q => by
  cases rx with
  | @tup a xs _ h1 h2 =>
    cases ry with
    | @tup b ys _ h3 h4 =>
      have n1 : ds.length ≠ 0 := fun z => h0 (List.length_eq_zero_iff.mp z)
      have n2 : es.length ≠ 0 := fun z => absurd (List.length_eq_zero_iff.mp z) (by assumption)
      exact ⟨a, b, xs, ys, rfl, rfl, h1.sq, h3.sq, fun z => n1 (by rw [← h2.length, z]; rfl), by rw [h2.length, h4.length, sizeLine_eq]; omega, fun z => absurd (by rw [← h4.length, z]; rfl) n2, fun _ p hp => q _ _ (Evl.Ex.new hp) (.newT (m.ex e) (h2.app h4) hp)⟩
def rAddS : R2 := fun x y H Q => ∃ i j, x = .str i ∧ y = .str j ∧ i.length + j.length ≤ sizeLine ∧ Q (.str (i ++ j)) H
theorem r_addS {a b : Str} (hz : a.length + b.length ≤ 16777216) : R2D K S rAddS H (.str a) (.str b) (.str (a ++ b)) := fun H1 _ x y rx ry Q q => by
  cases rx; cases ry
  exact ⟨a, b, rfl, rfl, by rw [sizeLine_eq]; exact hz, q _ _ (Evl.Ex.refl _) (.str _)⟩
/-! ### a written dict of the module -/
def rKIn (K : PySem.W.Frag) (dd : Addr) : R2 := fun x y H Q => ∃ (z : Str) (r : Option Value), x = .str z ∧ y = .ref dd ∧ PySem.W.nsIn K dd z = some r ∧ Q (.bl r.isSome) H
def rKNotIn (K : PySem.W.Frag) (dd : Addr) : R2 := fun x y H Q => ∃ (z : Str) (r : Option Value), x = .str z ∧ y = .ref dd ∧ PySem.W.nsIn K dd z = some r ∧ Q (.bl (!r.isSome)) H
def rKItem (K : PySem.W.Frag) (dd : Addr) : R2 := fun x y H Q => ∃ (z : Str) (u0 : Value) (v0 : V), x = .ref dd ∧ y = .str z ∧ PySem.W.nsIn K dd z = some (some u0) ∧ RelV v0 u0 ∧ Q v0 H
theorem ev_kin {dd : Addr} {z : Str} {r : Option Value} (h : EvD K S te σ H (.str z)) (hn : PySem.W.nsIn K dd z = some r) : EvD K S (tOp (rKIn K dd) te (tC (.ref dd))) σ H (.bl r.isSome) := fun H1 e Q q => h H1 e _ fun v H2 e2 r2 => by
  cases r2
  exact ⟨z, r, rfl, rfl, hn, q _ _ e2 (.bl _)⟩
theorem ev_knotin {dd : Addr} {z : Str} {r : Option Value} (h : EvD K S te σ H (.str z)) (hn : PySem.W.nsIn K dd z = some r) : EvD K S (tOp (rKNotIn K dd) te (tC (.ref dd))) σ H (.bl (!r.isSome)) := fun H1 e Q q => h H1 e _ fun v H2 e2 r2 => by
  cases r2
  exact ⟨z, r, rfl, rfl, hn, q _ _ e2 (.bl _)⟩
theorem ev_kitemS {dd : Addr} {z x : Str} {t : Tok} (h : EvD K S te σ H (.str z)) (hn : PySem.W.nsIn K dd z = some (some (.str x t))) : EvD K S (tOp (rKItem K dd) (tC (.ref dd)) te) σ H (.str x) := fun H1 e Q q => h H1 e _ fun v H2 e2 r2 => by
  cases r2
  exact ⟨z, _, .str x, rfl, rfl, hn, ⟨t, rfl⟩, q _ _ e2 (.str _)⟩
theorem ev_kitemI {dd : Addr} {z : Str} {i : Int} {t : Tok} (h : EvD K S te σ H (.str z)) (hn : PySem.W.nsIn K dd z = some (some (.int i t))) : EvD K S (tOp (rKItem K dd) (tC (.ref dd)) te) σ H (.int i) := fun H1 e Q q => h H1 e _ fun v H2 e2 r2 => by
  cases r2
  exact ⟨z, _, .int i, rfl, rfl, hn, ⟨t, rfl⟩, q _ _ e2 (.int _)⟩
/-! ### {..}.get(k), keys written texts -/
inductive EvP (K : PySem.W.Frag) (S : Addr → Prop) (σ : L2.St) (H : Hp) : List (TE × TE) → List (Str × D) → Prop where
  | nil : EvP K S σ H [] []
  | cons {k : Str} {tv : TE} {d : D} {trs : List (TE × TE)} {ps : List (Str × D)} : EvD K S tv σ H d → EvP K S σ H trs ps → EvP K S σ H ((tC (.str k), tv) :: trs) ((k, d) :: ps)
theorem ep_run {trs : List (TE × TE)} {ps : List (Str × D)} (m : Mem S H) (h : EvP K S σ H trs ps) : ∀ H1, Ex H H1 → ∀ Q : List (V × V) → Hp → Prop,
    (∀ vs H2, Ex H1 H2 → RpA K S H2 vs (ps.map (·.2)) → Q ((ps.map (·.1)).zipWith (fun k v => (.str k, v)) vs) H2) → tPairs trs σ H1 Q := by
  induction h with
  | nil => exact fun H1 _ Q q => q [] H1 (Evl.Ex.refl _) .nil
  | cons hd ht ih => exact fun H1 e Q q => hd H1 e _ fun v H2 e2 r2 => ih H2 (e.trans e2) _ fun vs H3 e3 r3 => q (v :: vs) H3 (e2.trans e3) (.cons (r2.mono (.of (m.ex (e.trans e2)) e3)) r3)
end
theorem putK_new {kvs : List (Key × V)} {k : Key} {v : V} (h : ∀ p ∈ kvs, p.1 ≠ k) : putK kvs k v = kvs ++ [(k, v)] := by
  unfold putK
  rw [if_neg]
  intro z
  obtain ⟨p, hp, e⟩ := List.any_eq_true.mp z
  exact h p hp (of_decide_eq_true e)
theorem mergeK_new : ∀ (more kvs : List (Key × V)), ((kvs ++ more).map (·.1)).Nodup → mergeK kvs more = kvs ++ more
  | [], kvs, _ => by show kvs = _; rw [List.append_nil]
  | p :: r, kvs, h => by
    have e : kvs ++ p :: r = (kvs ++ [p]) ++ r := by simp
    have hp : putK kvs p.1 p.2 = kvs ++ [p] := putK_new fun q hq z => by
      rw [List.map_append, List.nodup_append] at h
      exact h.2.2 q.1 (List.mem_map_of_mem hq) p.1 (by simp) z
    show mergeK (putK kvs p.1 p.2) r = _
    rw [hp, mergeK_new r (kvs ++ [p]) (by rw [← e]; exact h), ← e]
section
variable {K : PySem.W.Frag} {S S' : Addr → Prop} {σ : L2.St} {H H' H1 : Hp} {te ta tb : TE} {d d1 d2 : D}
theorem valV_lookup : ∀ {ks : List Str} {vs : List V} {ds : List D} (w : Str), ks.length = vs.length → RpA K S H vs ds →
    (match (ks.zip ds).lookup w with | some d => ∃ v, valV (List.zipWith (fun k v => ((.inr k : Key), v)) ks vs) (.inr w) = some v ∧ Rp K S H v d | none => valV (List.zipWith (fun k v => ((.inr k : Key), v)) ks vs) (.inr w) = none)
  | [], vs, ds, w, hl, r => by
    cases vs with
    | nil => rfl
    | cons => cases hl
  | k :: ks, vs, ds, w, hl, r => by
    cases r with
    | nil => cases hl
    | @cons v d vs ds r rr =>
      have ih := valV_lookup (ks := ks) (vs := vs) (ds := ds) w (by simpa using hl) rr
      by_cases e : w = k
      · subst e
        simp only [List.zip_cons_cons, List.lookup_cons, beq_self_eq_true]
        exact ⟨v, valV_pos rfl, r⟩
      · have e' : (w == k) = false := by simpa using e
        simp only [List.zip_cons_cons, List.lookup_cons, e', List.zipWith_cons_cons]
        rw [valV_neg (fun z => e (by cases z; rfl))]
        exact ih
theorem zip_fs : ∀ ps : List (Str × D), (ps.map (·.1)).zip (ps.map (·.2)) = ps
  | [] => rfl
  | p :: ps => by rw [List.map_cons, List.map_cons, List.zip_cons_cons, zip_fs ps]
theorem ev_getdisp {trs : List (TE × TE)} {ps : List (Str × D)} {w : Str} (m : Mem S H) (hp : ∀ S' H', Mem S' H' → Up K S H S' H' → Ex H H' → EvP K S' σ H' trs ps) (hn : (ps.map (·.1)).Nodup) (h15 : ps.length ≤ 15) (h : EvD K S te σ H (.str w)) :
    EvD K S (tDGet1 (tDisp trs) te) σ H ((ps.lookup w).getD .non) := fun H1 e Q q p hnew => by
  have m1 := m.ex e
  have ex1 : Ex H1 (upd H1 p (.dK [])) := Evl.Ex.new hnew
  have hH1 : H1 p = none := hnew
  have nS : ¬ S p := m1.new hnew
  have mP : Mem (plus S p) (upd H1 p (.dK [])) := fun b s => by
    rcases s with s | s
    · obtain ⟨o, h⟩ := m1 b s
      exact ⟨o, ex1 _ _ h⟩
    · exact ⟨_, by rw [s]; exact upd_same⟩
  have upP : Up K S H (plus S p) (upd H1 p (.dK [])) := fun v d r => by
    have r2 : Rp K (plus S p) H1 v d := (r.mono (.of m e)).plus hnew
    exact r2.mono ⟨fun a o n h => ex1 _ _ h, mP⟩
  refine ep_run mP (hp _ _ mP upP (e.trans ex1)) _ (Evl.Ex.refl _) _ fun vs H2 e2 r2 => ?_
  have hlen := r2.length
  rw [List.length_map] at hlen
  have hps : H2 p = some (.dK []) := e2 _ _ upd_same
  let kvs : List (Key × V) := List.zipWith (fun k v => ((.inr k : Key), v)) (ps.map (·.1)) vs
  have ke : kvs.map (·.1) = (ps.map (·.1)).map Sum.inr := by
    show (List.zipWith _ _ _).map _ = _
    rw [List.map_zipWith]
    have : ∀ (ks : List Str) (vs : List V), ks.length = vs.length → List.zipWith (fun k v => ((.inr k : Key), v).1) ks vs = ks.map Sum.inr := by
      intro ks
      induction ks with
      | nil => intro vs _; rfl
      | cons k ks ih =>
        intro vs hl
        cases vs with
        | nil => cases hl
        | cons v vs => rw [List.zipWith_cons_cons, ih vs (by simpa using hl)]; rfl
    exact this _ _ (by rw [List.length_map, hlen])
  have hm : mergeK [] kvs = kvs := by
    have := mergeK_new kvs [] (by
      rw [List.nil_append, ke]
      have inj : ∀ (ks : List Str), ks.Nodup → (ks.map (Sum.inr : Str → Key)).Nodup := by
        intro ks
        induction ks with
        | nil => intro _; exact List.nodup_nil
        | cons k ks ih =>
          intro h
          rw [List.nodup_cons] at h
          rw [List.map_cons, List.nodup_cons]
          refine ⟨fun z => ?_, ih h.2⟩
          obtain ⟨x, hx, ex⟩ := List.mem_map.mp z
          cases ex
          exact h.1 hx
      exact inj _ hn)
    rwa [List.nil_append] at this
  refine ⟨hps, kvs, ?_, ?_, ?_⟩
  · show _ = List.map _ (List.zipWith _ _ _)
    rw [List.map_zipWith]
    rfl
  · show (List.zipWith _ _ _).length ≤ 15
    rw [List.length_zipWith, List.length_map]; omega
  · rw [hm]
    have hd3 : (upd H2 p (.dK kvs)) p = some (.dK kvs) := upd_same
    have x3 : Ex H1 (upd H2 p (.dK kvs)) := fun b o hb => by
      have ne : b ≠ p := fun z => by rw [z, hH1] at hb; cases hb
      rw [upd_ne ne]
      exact e2 _ _ (ex1 _ _ hb)
    have m2 : Mem (plus S p) H2 := mP.ex e2
    have r3 : RpA K (plus S p) (upd H2 p (.dK kvs)) vs (ps.map (·.2)) := r2.mono (ExS.put m2 (.inr rfl))
    refine ⟨p, rfl, .inl ⟨kvs, .inl hd3⟩, h _ (e.trans x3) _ fun v H4 e4 r4 => ?_⟩
    cases r4
    refine ⟨valV kvs (.inr w), DGet.k (k := Sum.inr w) (e4 _ _ hd3), ?_⟩
    have lk := valV_lookup (ks := ps.map (·.1)) (vs := vs) (ds := ps.map (·.2)) w (by rw [List.length_map, hlen]) r3
    have ez : (ps.map (·.1)).zip (ps.map (·.2)) = ps := zip_fs ps
    rw [ez] at lk
    have m3 : Mem (plus S p) (upd H2 p (.dK kvs)) := (ExS.put m2 (.inr rfl)).mem
    have fin : Rp K S H4 ((valV kvs (.inr w)).getD .non) ((ps.lookup w).getD .non) := by
      generalize hlk : ps.lookup w = r at lk
      cases r with
      | none =>
        rw [show valV kvs (.inr w) = none from lk]
        exact .non
      | some dd =>
        obtain ⟨v, hv, rv⟩ := lk
        rw [show valV kvs (.inr w) = some v from hv]
        exact (rv.mono (.of m3 e4)).less fun a s => .inl s
    exact q _ _ (x3.trans e4) fin
end
end Nv
set_option Elab.async false
set_option linter.all false
set_option maxRecDepth 100000
set_option maxHeartbeats 4000000
/-! Statements as data; promises; callees; the module's dicts. -/
namespace Nv
open PySem PySem.Spec PyProof.Rows L2 StX NvZ
/-- a block that returns the data d -/
def EvS (K : PySem.W.Frag) (S : Addr → Prop) (ts : TS) (σ : L2.St) (H : Hp) (d : D) : Prop := ∀ H1, Ex H H1 → ∀ E : Ends, (∀ v H2, Ex H1 H2 → Rp K S H2 v d → E.rt v H2) → ts E σ H1
section
variable {K : PySem.W.Frag} {S : Addr → Prop} {σ : L2.St} {H : Hp} {te : TE} {t : TT} {u r : TS} {d d1 d2 : D}
theorem es_ret (h : EvD K S te σ H d) : EvS K S (tRet te) σ H d := fun H1 e E q => h H1 e _ q
theorem es_if {b : Bool} (h : EvB t σ H b) (h1 : b = true → EvS K S u σ H d) (h2 : b = false → EvS K S r σ H d) : EvS K S (tIfS t u r) σ H d := fun H1 e E q => h H1 e _ fun H2 e2 => by
  cases b with
  | true => exact h1 rfl H2 (e.trans e2) E fun v H3 e3 r3 => q v H3 (e2.trans e3) r3
  | false => exact h2 rfl H2 (e.trans e2) E fun v H3 e3 r3 => q v H3 (e2.trans e3) r3
theorem es_ifret {b : Bool} (h : EvB t σ H b) (h1 : b = true → EvS K S u σ H d) (h2 : b = false → EvS K S r σ H d) : EvS K S (tSeq (tIfS t u tNext) r) σ H d := fun H1 e E q => h H1 e _ fun H2 e2 => by
  cases b with
  | true => exact h1 rfl H2 (e.trans e2) { E with nx := r E } fun v H3 e3 r3 => q v H3 (e2.trans e3) r3
  | false => exact h2 rfl H2 (e.trans e2) E fun v H3 e3 r3 => q v H3 (e2.trans e3) r3
theorem es_set {i : Nat} (h : EvD K S te σ H d1) (hr : ∀ v H', Ex H H' → Rp K S H' v d1 → EvS K S r (σ.set i (some v)) H' d) : EvS K S (tSeq (tAsg te (gName i)) r) σ H d := fun H1 e E q => h H1 e _ fun v H2 e2 r2 =>
  hr v H2 (e.trans e2) r2 H2 (Evl.Ex.refl _) E fun v H3 e3 r3 => q v H3 (e2.trans e3) r3
theorem es_par {i j : Nat} {ta : TA} (m : Mem S H) (h : EvA K S ta σ H [d1, d2]) (hr : ∀ v w H', Ex H H' → Rp K S H' v d1 → Rp K S H' w d2 → EvS K S r ((σ.set i (some v)).set j (some w)) H' d) : EvS K S (tSeq (tPar i j ta) r) σ H d := fun H1 e E q => h H1 e _ fun vs H2 e2 r2 => by
  cases r2 with
  | cons r2 rn =>
    cases rn with
    | cons r3 rn =>
      cases rn
      exact ⟨_, _, rfl, hr _ _ H2 (e.trans e2) r2 r3 H2 (Evl.Ex.refl _) E fun v H3 e3 r3 => q v H3 (e2.trans e3) r3⟩
theorem EvS.is (h : EvS K S u σ H d) (e : d = d1) : EvS K S u σ H d1 := e ▸ h
end
/-! ### promises -/
/-- of values that are the data ds (pre), the data f ds; no more is written -/
def Pure (K : PySem.W.Frag) (n : Nat) (pre : List D → Prop) (f : List D → D) : Sp := fun vs H Q _ => ∃ S ds, ds.length = n ∧ Mem S H ∧ RpA K S H vs ds ∧ pre ds ∧ ∀ v H', Ex H H' → Rp K S H' v (f ds) → Q v H'
/-- .. or the exception C with its dict -/
def PureX (K : PySem.W.Frag) (n : Nat) (pre : List D → Prop) (f : List D → Addr × List (Str × V) ⊕ D) : Sp := fun vs H Q E => ∃ S ds, ds.length = n ∧ Mem S H ∧ RpA K S H vs ds ∧ pre ds ∧ match f ds with
  | .inr d => ∀ v H', Ex H H' → Rp K S H' v d → Q v H'
  | .inl x => ∀ p H', Ex H H' → H p = none → H' p = some (.xd x.2) → E (.ref x.1) (some p) H'
section
variable {K : PySem.W.Frag} {S : Addr → Prop} {σ : L2.St} {H : Hp} {n : Nat} {pre : List D → Prop} {f : List D → D}
theorem Pure.len {vs : List V} {Q : VK} {E : XK} (h : Pure K n pre f vs H Q E) : vs.length = n := by
  obtain ⟨S, ds, hl, m, r, _⟩ := h
  rw [r.length]; exact hl
theorem ra_pure {ds : List D} {E : XK} (m : Mem S H) (hn : ds.length = n) (hp : pre ds) : RAD K S (fun vs H Q => Pure K n pre f (vs ++ []) H Q E) H ds (f ds) := fun H1 e vs r Q q => ⟨S, ds, hn, m.ex e, by rw [List.append_nil]; exact r, hp, q⟩
theorem ev_pure {ta : TA} {ds : List D} {E : XK} (m : Mem S H) (h : EvA K S ta σ H ds) (hn : ds.length = n) (hp : pre ds) : EvD K S (tCall (Pure K n pre f) [] E ta) σ H (f ds) := ev_call h (ra_pure m hn hp)
theorem pure_of {vs : List V} {Q : VK} {E : XK} {N : List Str} {ts : TS} (h : Pure K n pre f vs H Q E) (b : ∀ S ds, ds.length = n → Mem S H → RpA K S H vs ds → pre ds → EvS K S ts (start N vs) H (f ds)) : ts { nx := fun _ H' => Q .non H', rt := Q } (start N vs) H := by
  obtain ⟨S, ds, hl, m, r, hp, q⟩ := h
  exact b S ds hl m r hp H (Evl.Ex.refl _) _ q
end
/-! ### callees -/
structure Cal (P : Program) (w : World) (K : PySem.W.Frag) (mg : Str → Option Value) (base : Heap) (CX : CXT) (k : Nat) (x : Str) (ps : List Str) (sp : Sp) : Prop where
  ex : ∃ f fd, mg x = some (.ref f) ∧ PySem.W.keepIn K (.ref f) = true ∧ Binds K fd ps [] ∧ FnOk P w K mg base CX k f fd ps sp
theorem Cal.mk' {P : Program} {w : World} {K : PySem.W.Frag} {mg : Str → Option Value} {base : Heap} {CX : CXT} {k : Nat} {x : Str} {ps : List Str} {sp : Sp} {f : Addr} {fd : FuncData} (h1 : mg x = some (.ref f)) (h2 : PySem.W.keepIn K (.ref f) = true) (h3 : Binds K fd ps []) (h4 : FnOk P w K mg base CX k f fd ps sp) : Cal P w K mg base CX k x ps sp := ⟨f, fd, h1, h2, h3, h4⟩
structure Met (P : Program) (w : World) (K : PySem.W.Frag) (mg : Str → Option Value) (base : Heap) (CX : CXT) (k : Nat) (C : Addr) (x : Str) (ps : List Str) (sp : Sp) : Prop where
  ex : ∃ f fd, Meth K C x f ∧ Binds K fd ps [] ∧ FnOk P w K mg base CX k f fd ps sp
section
variable {X : Cx} {CX : CXT} {k : Nat} {C : Addr} {x m : Str} {ps : List Str} {sp : Sp} {E : XK} {p pos apos : Pos} {e o : Expr} {es : List Expr} {ta : TE} {t : TA}
theorem pe_cal (c : Cal X.prog X.w X.K X.mg X.base CX k x ps sp) (hr : Room k X.A) (hx : Passes CX X E) (ha : PA X (e :: es) t) (hg : Gl X x := by rfl)
    (hdb : (x == ("__debug__" : Str)) = false := by decide) (he : starEach (e :: es) X.env = (false, eval e X.env) :: starEach es X.env := by rfl) (hpl : (backTo pos (starEach es X.env)).any (·.1) = false := by rfl) :
    PE X (.Call (.Name x p) (e :: es) [] pos) (tCall sp [] E t) := by
  obtain ⟨f, fd, h1, h2, h3, h4⟩ := c.ex
  exact pe_call h4 hr hg h1 h2 h3 .nil hx ha hdb he hpl
theorem pe_met0 {pl : Sem Bool} (c : Met X.prog X.w X.K X.mg X.base CX k C m ps sp) (hC : Cls X.K C) (hr : Room k X.A) (hx : Passes CX X E) (he : PE X o ta)
    (ht : eval (.Call (.Attribute o m apos) [] [] pos) X.env = (do
      let ov ← eval o X.env
      standAt apos.atName
      let (f, first) ← holding [ov] (getMethod ov m pl)
      callWith pos f first (backTo pos (starEach [] X.env)) (backToKw pos (keywordEach [] X.env))) := by rfl) :
    PE X (.Call (.Attribute o m apos) [] [] pos) (tMeth C m sp [] E ta tNil) := by
  obtain ⟨f, fd, h1, h2, h3⟩ := c.ex
  exact pe_meth0 he hC h1 h3 hr h2 .nil hx ht
theorem pe_met {pl : Sem Bool} (c : Met X.prog X.w X.K X.mg X.base CX k C m ps sp) (hC : Cls X.K C) (hr : Room k X.A) (hx : Passes CX X E) (he : PE X o ta) (ha : PA X (e :: es) t)
    (hst : starEach (e :: es) X.env = (false, eval e X.env) :: starEach es X.env := by rfl) (hpl : (backTo pos (starEach es X.env)).any (·.1) = false := by rfl)
    (ht : eval (.Call (.Attribute o m apos) (e :: es) [] pos) X.env = (do
      let ov ← eval o X.env
      standAt apos.atName
      let (f, first) ← holding [ov] (getMethod ov m pl)
      callWith pos f first (backTo pos (starEach (e :: es) X.env)) (backToKw pos (keywordEach [] X.env))) := by rfl) :
    PE X (.Call (.Attribute o m apos) (e :: es) [] pos) (tMeth C m sp [] E ta t) := by
  obtain ⟨f, fd, h1, h2, h3⟩ := c.ex
  exact pe_meth he hC h1 h3 hr h2 .nil hx ha hst hpl ht
/-- what the callee lets out, the caller lets out -/
theorem passE {W : WX} (tk : Takes X W) {E : XK} (h : ∀ cls d σ H, E cls d H → W cls d σ H) : Passes (L2.CX X.prog X.w) X E := fun pins σ H s e s' I c => passes_call tk h pins σ H s e s' I c
end
/-! ### the module's dicts -/
theorem ix_kd {X : Cx} {dd : Addr} {es : Array DictEntry} {n : Nat} (D : KDict X.K X.w dd es n) : OpR X getItem (rKItem X.K dd) := op_item_kd D
theorem pe_kitem {X : Cx} {dd : Addr} {es : Array DictEntry} {n : Nat} {o i : Expr} {ty : TE} {pos : Pos} (D : KDict X.K X.w dd es n) (ho : PE X o (tC (.ref dd))) (hi : PE X i ty) (hs : NoSl i) : PE X (.Subscript o i pos) (tOp (rKItem X.K dd) (tC (.ref dd)) ty) := by
  refine ⟨fun pins s σ H Q I h => ?_⟩
  refine subD_of PySem.F.slot_dict_getitem.lookup hs (thn (ho.run pins s σ H _ I h) fun u s1 ⟨x, H1, I1, rx, q1⟩ => thn (hi.run pins s1 σ H1 _ I1 q1) fun iv s2 ⟨y, H2, I2, ry, q2⟩ => ?_)
  obtain ⟨z, u0, v0, ex, ey, hn, r, q⟩ := q2
  subst ex ey
  obtain rfl : u = Value.ref dd := rx
  exact ⟨kd_type D I2, op_item_kd D pins s2 σ H2 (.ref dd) (.str z) _ _ Q I2 (show RelV (.ref dd) (.ref dd) from rfl) ry ⟨z, u0, v0, rfl, rfl, hn, r, q⟩⟩
/-- list(d): its keys -/
def rKList (dd : Addr) (ks : List Str) : List V → Hp → VK → Prop := fun xs H Q => xs = [.ref dd] ∧ ∀ p, H p = none → Q (.ref p) (upd H p (.lst (ks.map V.str)))
def keyStr : Value → Option Str
  | .str x _ => some x
  | _ => none
theorem pairs_kd {P : Program} {w : World} : ∀ {l : List DictEntry} {ks : List Str}, l.map (fun e => keyStr e.key) = ks.map some → Pairs (strKind P w) l (ks.zip (l.map (·.val)))
  | [], [], _ => .nil
  | [], _ :: _, h => by simp at h
  | _ :: _, [], h => by simp at h
  | e :: l, k :: ks, h => by
    simp only [List.map_cons, List.cons.injEq] at h
    refine .cons ?_ rfl (pairs_kd h.2)
    have h1 := h.1
    cases hk : e.key with
    | str x t =>
      rw [hk] at h1
      have e1 : x = k := by simpa [keyStr] using h1
      rw [e1]; exact strKind_is P w k t
    | _ => rw [hk] at h1; cases h1
theorem call_list_kd {X : Cx} {dd : Addr} {es : Array DictEntry} {n : Nat} {ks : List Str} (hc : X.calm = true) (D : KDict X.K X.w dd es n) (hk : es.toList.map (fun e => keyStr e.key) = ks.map some) (hn : ks.Nodup) (hz : ks.length ≤ 1000) : CallR X (.type "list") (rKList dd ks) := by
  intro pins s σ H xs us Q I r h
  obtain ⟨rfl, q⟩ := h
  obtain ⟨u, rfl, rx⟩ := vals1 r
  cases rx
  have hl : es.toList.length = ks.length := by
    have := congrArg List.length hk
    simpa using this
  have kf : (ks.zip (es.toList.map (·.val))).map (·.1) = ks := List.map_fst_zip (by rw [List.length_map]; omega)
  have hat : s.heap.DictAt (strKind X.prog X.w) dd (ks.zip (es.toList.map (·.val))) n := ⟨_, es, I.kIn _ _ D.at_, ⟨rfl, rfl, rfl⟩, rfl, fun e he => by
      obtain ⟨x, t, e1, e2⟩ := D.lit.all e (Array.mem_toList_iff.mpr he)
      exact ⟨x, by rw [e1]; exact strKind_is X.prog X.w x t, e2⟩, pairs_kd hk, by rw [kf]; exact hn⟩
  have hzl : (ks.zip (es.toList.map (·.val))).length = ks.length := by
    rw [List.length_zip, List.length_map, hl, Nat.min_self]
  refine PySem.W.kdl_call (PySem.W.kdl_dict (knd := strKind X.prog X.w) (kvs := ks.zip (es.toList.map (·.val))) (ep := n) D.low) (I.ok.hd hc) hat (by rw [hzl, sizeLine_eq]; omega) fun h' tk acc' c' hkeep hS hacc => ?_
  have el : acc'.toList.length = ks.length := by rw [Array.length_toList, hacc.1, hzl]
  refine ⟨.ref s.heap.objs.size, upd H s.heap.objs.size (.lst (ks.map V.str)), I.laid hkeep (Nat.le_refl _) (show ObjOk X.prog X.w _ _ _ (.lst (ks.map V.str)) from ⟨?_, acc'.toList, c', ?_, ?_⟩), rfl, q _ (I.hok.fresh (Nat.le_refl _))⟩
  · rw [List.length_map, sizeLine_eq]; omega
  · refine vals_of_at (by rw [List.length_map, el]) fun j x w h1 h2 => ?_
    obtain ⟨k, y, hky, hi⟩ := hacc.2 j w (by rw [← Array.getElem?_toList]; exact h2)
    have e1 : ks[j]? = some k := by
      have e3 := congrArg (fun o : Option (Str × Value) => o.map (·.1)) hky
      simp only [Option.map_some] at e3
      rw [← List.getElem?_map, kf] at e3
      exact e3
    rw [List.getElem?_map, e1] at h1
    cases h1
    obtain ⟨t, rfl⟩ := Value.isStrOf_shape hi
    exact ⟨t, rfl⟩
  · rw [Array.toArray_toList]; exact hS
theorem ra_klist {K : PySem.W.Frag} {S : Addr → Prop} {H : Hp} {dd : Addr} {ks : List Str} {te : TE} {σ : L2.St} (m : Mem S H) : EvD K S (tCB (rKList dd ks) (tCons (tC (.ref dd)) tNil)) σ H (.lst (ks.map D.str)) := fun H1 e Q q => ⟨rfl, fun p hp => q _ _ (Evl.Ex.new hp) (.newL (m.ex e) (rpA_strs _) hp)⟩
end Nv
set_option Elab.async false
set_option linter.all false
set_option maxRecDepth 100000
set_option maxHeartbeats 4000000
/-! Terms in short. -/
namespace Nv
open PySem PySem.Spec PyProof.Rows L2 StX NvZ
theorem bt_all : bootBuiltins "all" = some (.builtin "all") := by decide +kernel
theorem bt_len : bootBuiltins "len" = some (.builtin "len") := by decide +kernel
theorem bt_isi : bootBuiltins "isinstance" = some (.builtin "isinstance") := by decide +kernel
theorem bt_abs : bootBuiltins "abs" = some (.builtin "abs") := by decide +kernel
theorem bt_int : bootBuiltins "int" = some (.type "int") := by decide +kernel
theorem bt_str : bootBuiltins "str" = some (.type "str") := by decide +kernel
theorem bt_bool : bootBuiltins "bool" = some (.type "bool") := by decide +kernel
theorem bt_list : bootBuiltins "list" = some (.type "list") := by decide +kernel
theorem bt_tuple : bootBuiltins "tuple" = some (.type "tuple") := by decide +kernel
structure Blt (mg : Str → Option Value) : Prop where
  all : mg "all" = none
  len : mg "len" = none
  isi : mg "isinstance" = none
  abs : mg "abs" = none
  int : mg "int" = none
  str : mg "str" = none
  bool : mg "bool" = none
  list : mg "list" = none
  tuple : mg "tuple" = none
  range : mg "range" = none
  enumerate : mg "enumerate" = none
  zip : mg "zip" = none
def GloS (mg : Str → Option Value) (x z : Str) : Prop := ∃ t, mg x = some (.str z t)
def GloI (mg : Str → Option Value) (x : Str) (i : Int) : Prop := ∃ t, mg x = some (.int i t)
section
variable {X : Cx} {a b e : Expr} {ta tb te : TE} {p pos : Pos}
theorem pe_globS {x z : Str} (h : GloS X.mg x z) (hg : Gl X x := by rfl) (hd : (x == ("__debug__" : Str)) = false := by decide) : PE X (.Name x p) (tC (.str z)) := by
  obtain ⟨t, h⟩ := h
  exact pe_glob hg h ⟨t, rfl⟩ hd
theorem pe_globI {x : Str} {i : Int} (h : GloI X.mg x i) (hg : Gl X x := by rfl) (hd : (x == ("__debug__" : Str)) = false := by decide) : PE X (.Name x p) (tC (.int i)) := by
  obtain ⟨t, h⟩ := h
  exact pe_glob hg h ⟨t, rfl⟩ hd
theorem pe_globR {x : Str} {r : Addr} (h : X.mg x = some (.ref r)) (hg : Gl X x := by rfl) (hd : (x == ("__debug__" : Str)) = false := by decide) : PE X (.Name x p) (tC (.ref r)) := pe_glob hg h rfl hd
theorem pe_len (B : Blt X.mg) (ha : PE X a ta) (hg : Gl X "len" := by rfl) (he : starEach [a] X.env = (false, eval a X.env) :: starEach [] X.env := by rfl) : PE X (.Call (.Name "len" p) [a] [] pos) (tCB (rLenV X.K) (tCons ta tNil)) :=
  pe_callB call_len hg B.len bt_len (pa_cons ha pa_nil he) (by decide) (by decide) he
theorem pe_all (B : Blt X.mg) (hc : X.calm = true) (ha : PE X a ta) (hg : Gl X "all" := by rfl) (he : starEach [a] X.env = (false, eval a X.env) :: starEach [] X.env := by rfl) : PE X (.Call (.Name "all" p) [a] [] pos) (tCB (rAll X.K) (tCons ta tNil)) :=
  pe_callB (cr_all hc) hg B.all bt_all (pa_cons ha pa_nil he) (by decide) (by decide) he
theorem pe_strI (B : Blt X.mg) (ha : PE X a ta) (hg : Gl X "str" := by rfl) (he : starEach [a] X.env = (false, eval a X.env) :: starEach [] X.env := by rfl) : PE X (.Call (.Name "str" p) [a] [] pos) (tCB rStrI (tCons ta tNil)) :=
  pe_callTy call_str_int hg B.str bt_str (pa_cons ha pa_nil he) (by decide) (by decide) he
theorem pe_intI (B : Blt X.mg) (ha : PE X a ta) (hg : Gl X "int" := by rfl) (he : starEach [a] X.env = (false, eval a X.env) :: starEach [] X.env := by rfl) : PE X (.Call (.Name "int" p) [a] [] pos) (tCB rIntI (tCons ta tNil)) :=
  pe_callTy call_int1 hg B.int bt_int (pa_cons ha pa_nil he) (by decide) (by decide) he
theorem pe_intS (B : Blt X.mg) (ha : PE X a ta) (hg : Gl X "int" := by rfl) (he : starEach [a] X.env = (false, eval a X.env) :: starEach [] X.env := by rfl) : PE X (.Call (.Name "int" p) [a] [] pos) (tCB rIntS (tCons ta tNil)) :=
  pe_callTy call_int_str hg B.int bt_int (pa_cons ha pa_nil he) (by decide) (by decide) he
def rAbs : List V → Hp → VK → Prop := fun xs H Q => ∃ i, xs = [.int i] ∧ Q (.int (if i < 0 then -i else i)) H
theorem pe_abs (B : Blt X.mg) (ha : PE X a ta) (hg : Gl X "abs" := by rfl) (he : starEach [a] X.env = (false, eval a X.env) :: starEach [] X.env := by rfl) : PE X (.Call (.Name "abs" p) [a] [] pos) (tCB rAbs (tCons ta tNil)) :=
  pe_callB call_abs hg B.abs bt_abs (pa_cons ha pa_nil he) (by decide) (by decide) he
theorem pe_tupOf (B : Blt X.mg) (ha : PE X a ta) (hg : Gl X "tuple" := by rfl) (he : starEach [a] X.env = (false, eval a X.env) :: starEach [] X.env := by rfl) : PE X (.Call (.Name "tuple" p) [a] [] pos) (tCB (rTupOf X.K) (tCons ta tNil)) :=
  pe_callTy call_tuple_of hg B.tuple bt_tuple (pa_cons ha pa_nil he) (by decide) (by decide) he
def rListOf (K : PySem.W.Frag) : List V → Hp → VK → Prop := fun xs H Q => ∃ p ys, xs = [.ref p] ∧ (SqL K H p ys ∨ SqT K H p ys) ∧ ∀ l, H l = none → Q (.ref l) (upd H l (.lst ys))
theorem pe_listOf (B : Blt X.mg) (ha : PE X a ta) (hg : Gl X "list" := by rfl) (he : starEach [a] X.env = (false, eval a X.env) :: starEach [] X.env := by rfl) : PE X (.Call (.Name "list" p) [a] [] pos) (tCB (rListOf X.K) (tCons ta tNil)) :=
  pe_callTy call_list_of hg B.list bt_list (pa_cons ha pa_nil he) (by decide) (by decide) he
theorem pe_klist {dd : Addr} {es : Array DictEntry} {n : Nat} {ks : List Str} (B : Blt X.mg) (hc : X.calm = true) (D : KDict X.K X.w dd es n) (hk : es.toList.map (fun e => keyStr e.key) = ks.map some) (hn : ks.Nodup) (hz : ks.length ≤ 1000) (ha : PE X a ta) (hg : Gl X "list" := by rfl) (he : starEach [a] X.env = (false, eval a X.env) :: starEach [] X.env := by rfl) :
    PE X (.Call (.Name "list" p) [a] [] pos) (tCB (rKList dd ks) (tCons ta tNil)) :=
  pe_callTy (call_list_kd hc D hk hn hz) hg B.list bt_list (pa_cons ha pa_nil he) (by decide) (by decide) he
/-- isinstance(x, T) -/
theorem pe_isi {n : Str} {nn : String} (B : Blt X.mg) (ha : PE X a ta) (hm : X.mg n = none) (hv : bootBuiltins n = some (.type nn)) {p2 : Pos} (hg2 : Gl X n := by rfl) (hg : Gl X "isinstance" := by rfl) (he : starEach [a, .Name n p2] X.env = (false, eval a X.env) :: starEach [.Name n p2] X.env := by rfl)
    (he2 : starEach [.Name n p2] X.env = (false, eval (.Name n p2) X.env) :: starEach [] X.env := by rfl) (hn : n ≠ "__name__" := by decide) (hd : (n == ("__debug__" : Str)) = false := by decide) (hpl : (backTo pos (starEach [.Name n p2] X.env)).any (·.1) = false := by rfl) :
    PE X (.Call (.Name "isinstance" p) [a, .Name n p2] [] pos) (tCB (rIsi X.K) (tCons ta (tCons (tC (.ty nn)) tNil))) :=
  pe_callB call_isi hg B.isi bt_isi (pa_cons ha (pa_cons (pe_bltn hg2 hm hv rfl hn hd) pa_nil he2) he) (by decide) (by decide) he hpl
theorem pe_isiC {n : Str} {C : Addr} (B : Blt X.mg) (ha : PE X a ta) (hm : X.mg n = some (.ref C)) {p2 : Pos} (hg2 : Gl X n := by rfl) (hg : Gl X "isinstance" := by rfl) (he : starEach [a, .Name n p2] X.env = (false, eval a X.env) :: starEach [.Name n p2] X.env := by rfl)
    (he2 : starEach [.Name n p2] X.env = (false, eval (.Name n p2) X.env) :: starEach [] X.env := by rfl) (hd : (n == ("__debug__" : Str)) = false := by decide) (hpl : (backTo pos (starEach [.Name n p2] X.env)).any (·.1) = false := by rfl) :
    PE X (.Call (.Name "isinstance" p) [a, .Name n p2] [] pos) (tCB (rIsi X.K) (tCons ta (tCons (tC (.ref C)) tNil))) :=
  pe_callB call_isi hg B.isi bt_isi (pa_cons ha (pa_cons (pe_glob hg2 hm rfl hd) pa_nil he2) he) (by decide) (by decide) he hpl
/-- isinstance(x, (list, tuple)) -/
theorem pe_isiLT {k2 : Nat} {p2 p3 p4 : Pos} (B : Blt X.mg) (ha : PE X a ta) (hgl : Gl X "list" := by rfl) (hgt : Gl X "tuple" := by rfl) (hg : Gl X "isinstance" := by rfl)
    (he : starEach [a, .Tuple [.Name "list" p2, .Name "tuple" p3] k2 p4] X.env = (false, eval a X.env) :: starEach [.Tuple [.Name "list" p2, .Name "tuple" p3] k2 p4] X.env := by rfl) 
    (he2 : starEach [.Tuple [.Name "list" p2, .Name "tuple" p3] k2 p4] X.env = (false, eval (.Tuple [.Name "list" p2, .Name "tuple" p3] k2 p4) X.env) :: starEach [] X.env := by rfl)
    (he3 : starEach [.Name "list" p2, .Name "tuple" p3] X.env = (false, eval (.Name "list" p2) X.env) :: starEach [.Name "tuple" p3] X.env := by rfl) (he4 : starEach [.Name "tuple" p3] X.env = (false, eval (.Name "tuple" p3) X.env) :: starEach [] X.env := by rfl)
    (hpl : (backTo pos (starEach [.Tuple [.Name "list" p2, .Name "tuple" p3] k2 p4] X.env)).any (·.1) = false := by rfl) :
    PE X (.Call (.Name "isinstance" p) [a, .Tuple [.Name "list" p2, .Name "tuple" p3] k2 p4] [] pos) (tCB (rIsiT X.K) (tCons ta (tCons (tTup (tCons (tC (.ty "list")) (tCons (tC (.ty "tuple")) tNil))) tNil))) :=
  pe_callB call_isiT hg B.isi bt_isi (pa_cons ha (pa_cons (pe_tup (pa_cons (pe_bltn hgl B.list bt_list rfl (by decide) (by decide)) (pa_cons (pe_bltn hgt B.tuple bt_tuple rfl (by decide) (by decide)) pa_nil he4) he3)) pa_nil he2) he) (by decide) (by decide) he hpl
/-- d.get(k) on one line -/
theorem m1_of {o e : Expr} {m : Str} {apos cpos : Pos} (h1 : attributeBase o m X.env (eval o X.env) = eval o X.env := by rfl) (h2 : ((backTo cpos (starEach [e] X.env)).all (fun x => !x.1) && (backToKw cpos (keywordEach [] X.env)).all (fun x => x.1.isSome)
    && decide (([e] : List Expr).length + ([] : List Keyword).length + (if ([] : List Keyword).isEmpty then 0 else 1) < 30)) = true := by rfl)
    (h3 : (apos.endLine == cpos.line) = true := by rfl) (h4 : backTo cpos (starEach [e] X.env) = [(false, eval e X.env)] := by rfl) : M1 X o m apos e cpos := ⟨h1, h2, h3, h4⟩
end
/-! ### readings by their names -/
abbrev rAddI : R2 := rI0 fun i j => .int (i + j)
abbrev rSubI : R2 := rI0 fun i j => .int (i - j)
abbrev rMulI : R2 := rI CMul fun i j => .int (i * j)
abbrev rDivI : R2 := rI CDivN fun i j => .int (i.fdiv j)
abbrev rModI : R2 := rI (fun _ j => j ≠ 0) fun i j => .int (i.fmod j)
abbrev rPowI : R2 := rI CPow fun i j => .int (i ^ j.toNat)
abbrev rLtI : R2 := rI0 fun i j => .bl (decide (i < j))
abbrev rLeI : R2 := rI0 fun i j => .bl (decide (i ≤ j))
abbrev rGtI : R2 := rI0 fun i j => .bl (decide (j < i))
abbrev rGeI : R2 := rI0 fun i j => .bl (decide (j ≤ i))
abbrev rIsN : R2 := fun x y H Q => y = .non ∧ Q (.bl (decide (x = .non))) H
abbrev rNotN : R2 := fun x y H Q => y = .non ∧ Q (.bl (!decide (x = .non))) H
abbrev rNeg : V → Hp → VK → Prop := fun x H Q => ∃ i, x = .int i ∧ Q (.int (-i)) H
/-- a sign in a text -/
abbrev rInSign : R2 := fun x y H Q => ∃ (c : Nat) (z : Str), x = .str ⟨#[c]⟩ ∧ y = .str z ∧ Q (.bl (decide (c ∈ z.cps.toList))) H
/-- nothing is asked -/
abbrev tYes' : TT := tYes
end Nv
set_option Elab.async false
set_option linter.all false
set_option maxRecDepth 100000
set_option maxHeartbeats 1000000
/-! == and != of instances of a class with its own __eq__; d.update(e). -/
namespace L2
open PySem PySem.Spec PyProof.Rows
theorem ns_is {K : PySem.W.Frag} {h : Heap} {N : Addr} {mN : Str → Option Value} {x : Str} {v : Value} (X : K.In h) (G : h.Ns N mN) (e : PySem.W.nsIn K N x = some (some v)) : mN x = some v := by
  obtain ⟨o, es, ep, ho, hd, hk, hf⟩ := G
  unfold PySem.W.nsIn at e
  split at e
  · rename_i c d es' n sl lk
    have z := X _ _ lk
    rw [ho] at z
    cases z
    cases hd
    have y := hf x
    split at e
    · rename_i en he
      cases e
      have y2 : nsFind es x = some en.val := by
        unfold nsFind findBy
        rw [← Array.find?_toList, he]
        rfl
      rw [← y, y2]
    · split at e <;> cases e
  · cases e
/-- the class has an own ==, no != -/
structure OwnQ (K : PySem.W.Frag) (C f : Addr) : Prop where
  cls : ∃ (nm q : Str) (N : Addr) (bs : List Value) (hdct : Bool) (sn : List Str) (sub : List Value) (ab : Bool) (col : Option Bool) (dd : Option Addr) (k0 k1 k2 k3 k5 : Option Value) (newId : String),
    K.lookup C = some (excClassObj nm q C N bs [.type "object"] hdct sn sub ab col dd k0 k1 k2 k3 k5 newId) ∧ PySem.W.nsOkIn K N = true ∧ PySem.W.nsIn K N "__eq__" = some (some (.ref f)) ∧ PySem.W.nsIn K N "__ne__" = some none
  find : PySem.W.findIn K (.ref C) "__eq__" = some (some (.ref f))
  fn : PySem.W.isFn K (.ref f) = true
def rEqO (C : Addr) (sp : Sp) (neg : Bool) : R2 := fun x y H Q => ∃ a b dx dy fs gs, x = .ref a ∧ y = .ref b ∧ H a = some (.ins C dx fs) ∧ H b = some (.ins C dy gs) ∧
  sp [.ref a, .ref b] H (fun v H' => ∃ k, v = .bl k ∧ Q (.bl (if neg then !k else k)) H') E0
section
variable {X : Cx} {C f : Addr} {fd : FuncData} {ps : List Str} {sp : Sp} {n : Nat}
theorem op_eqO (O : OwnQ X.K C f) (F : FnOk X.prog X.w X.K X.mg X.base CX0 n f fd ps sp) (hb : Binds X.K fd ps []) (hr : Room n X.A) : OpR X (compareOp .Eq) (rEqO C sp false) := by
  intro pins s σ H x y u v Q I rx ry h
  obtain ⟨a, b, dx, dy, fs, gs, rfl, rfl, ha, hb', hs⟩ := h
  cases rx
  cases ry
  obtain ⟨mA, J, _⟩ := ins_get I.hok ha
  obtain ⟨mB, J', _⟩ := ins_get I.hok hb'
  obtain ⟨od, J, _⟩ := J.look
  obtain ⟨od', J', _⟩ := J'.look
  obtain ⟨m, hF⟩ := I.fr
  show wpAny (model X.prog X.w) X.A (richCompare .Eq (.ref a) (.ref b)) (EP X pins σ Q) X.xe s
  refine PySem.W.cmp_K (op := .Eq) (tb := .ref C) hr.units0 hF I.ok.mod.kin J J'.type (by simp [PySem.W.notFirst]) O.find O.fn ?_
  have hl := F.len _ _ _ _ hs
  refine wpAny_call (codeAny_mono (F.run X.A X.stack s H ⟨[.ref a, .ref b], []⟩ [.ref a, .ref b] [.ref a, .ref b] _ E0 hr I.env0 (by
    have := hb s [.ref a, .ref b] I.kIn (by simpa using hl)
    simpa using this) (.cons rfl (.cons rfl .nil)) hs) fun r s' hq => ?_)
  cases r with
  | error e => exact hq.elim
  | ok fl =>
    cases fl with
    | ret w =>
      obtain ⟨z, H', I', rz, k, ez, q⟩ := I.after hq
      subst ez
      cases rz
      exact ⟨.bl k, H', I', rfl, q⟩
    | next => exact False.elim hq
    | brk => exact False.elim hq
    | cont => exact False.elim hq
theorem op_neO (O : OwnQ X.K C f) (F : FnOk X.prog X.w X.K X.mg X.base CX0 n f fd ps sp) (hb : Binds X.K fd ps []) (hr : Room (n + 1) X.A) : OpR X (compareOp .NotEq) (rEqO C sp true) := by
  intro pins s σ H x y u v Q I rx ry h
  obtain ⟨a, b, dx, dy, fs, gs, rfl, rfl, ha, hb', hs⟩ := h
  cases rx
  cases ry
  obtain ⟨mA, J, _⟩ := ins_get I.hok ha
  obtain ⟨mB, J', _⟩ := ins_get I.hok hb'
  obtain ⟨od, J, _⟩ := J.look
  obtain ⟨od', J', _⟩ := J'.look
  obtain ⟨nm, q, N, bs, hdct, sn, sub, ab, col, dd, k0, k1, k2, k3, k5, newId, lC, hN, hq1, hq2⟩ := O.cls
  have KX := I.kIn
  obtain ⟨of, hof, hfc⟩ : ∃ of, s.heap.get? f = some of ∧ of.cls = .type "function" := by
    have z := O.fn
    unfold PySem.W.isFn at z
    have z' := beq_iff_eq.mp z
    obtain ⟨o, ho, hc⟩ := Option.map_eq_some_iff.mp z'
    exact ⟨o, KX _ _ ho, hc⟩
  have ns : s.heap.Ns N (s.heap.nsMap N) := .of_isNs (PySem.W.isNs_of_in KX hN)
  have XX : s.heap.OwnEqNoNe a C f "object" [.type "object"] := ⟨_, of, nm, q, N, bs, hdct, sn, sub, ab, col, dd, k0, k1, k2, k3, k5, newId, _, _, J.at_, J.cls, KX _ _ lC, ns, ns_is KX ns hq1, hof, hfc, PySem.F.cmp_object.mro, PySem.F.cmp_object.eq.lookup, PySem.W.nsMap_none_of_in KX hN hq2⟩
  have hr1 := hr.in1
  have hl := F.len _ _ _ _ hs
  obtain ⟨hp, g, d, tk, os⟩ := s
  refine PySem.compareOp_ne_ownEq PySem.F.cmp_object XX J'.at_ J'.cls (by have := hr.un; omega) ?_
  refine wpAny_call (codeAny_mono (F.run X.A.in1 X.stack ⟨hp, g, d, tk, os⟩ H ⟨[.ref a, .ref b], []⟩ [.ref a, .ref b] [.ref a, .ref b] _ E0 hr1 (by
    have e := I.env0
    exact ⟨e.frames, e.mod, e.bs, e.bsz, e.funs, e.frf, e.hok, e.bare⟩) (by
    have := hb ⟨hp, g, d, tk, os⟩ [.ref a, .ref b] I.kIn (by simpa using hl)
    simpa using this) (.cons rfl (.cons rfl .nil)) hs) fun r s' hq => ?_)
  cases r with
  | error e => exact hq.elim
  | ok fl =>
    cases fl with
    | ret w =>
      obtain ⟨z, H', I', rz, k, ez, q⟩ := I.after hq
      subst ez
      cases rz
      exact ⟨k, rfl, .bl (!k), H', I', rfl, q⟩
    | next => exact False.elim hq
    | brk => exact False.elim hq
    | cont => exact False.elim hq
end
end L2
namespace L2
open PySem PySem.Spec PyProof.Rows
/-- d.update(e) -/
def rDUpd : V → List V → Hp → VK → Prop := fun x xs H Q => ∃ d o kvs more, x = .ref d ∧ xs = [.ref o] ∧ d ≠ o ∧ H d = some (.dK kvs) ∧ H o = some (.dK more) ∧ kvs.length + more.length ≤ sizeLine ∧ Q .non (upd H d (.dK (mergeK kvs more)))
theorem mt_dupdate {X : Cx} : MtR X "dict.update" rDUpd := by
  intro pins s σ H x vs v us Q I rx rv h
  obtain ⟨d, o, kvs, more, rfl, rfl, ne, hd, ho, hz, q⟩ := h
  cases rx
  obtain ⟨u, rfl, ru⟩ := rv.one
  cases ru
  obtain ⟨z, hlow, ws, rel, dd⟩ := dk_of I.hok hd
  obtain ⟨z2, hlow2, ws2, rel2, dd2⟩ := dk_of I.hok ho
  have hlen : (mergeK kvs more).length ≤ sizeLine := Nat.le_trans (length_mergeK more kvs) hz
  refine PySem.call_meetsIn PySem.F.slot_dict_update dd.typeIs PySem.F.entry_dict_update (PySem.F.args_dict_update_2 _ _) (meets_dict_update _ d o ne hlow2) ⟨ws, ws2, dd, dd2, by rw [← rel.length, ← rel2.length]; exact hz, fun h' d1 d2 hs => ?_⟩
  have he : ∃ q, h'.get? d = some q := let ⟨q, _, _, hq, _⟩ := d1; ⟨q, hq⟩
  exact ⟨.non, _, d_write I (by rw [hd]; exact True.intro) hs he (dk_new hlen hlow (KV.merge rel2 rel) d1), rfl, q⟩
end L2
set_option Elab.async false
set_option linter.all false
set_option maxRecDepth 100000
set_option maxHeartbeats 1000000
/-! sum(lists, []). -/
namespace HvS
open PySem
def rest (lst : Nat → List Value) (i : Nat) : Nat → List Value
  | 0 => []
  | k + 1 => lst i ++ rest lst (i + 1) k
theorem same_refl {p q : Prop} (h : p) (f : p → q) : q := f h
section
variable {prog : Program} {w : World} {A : Around} {R : Result → Shared → Prop} {h0 : Heap} {l I S : Addr} {items : Array Value} {lst : Nat → List Value}
theorem sum_loop (hh : A.handled = none) (hl0 : h0.IsList l items) (hI : h0.objs.size ≤ I) (hS : h0.objs.size ≤ S) (hIS : I ≠ S)
    (hv : ∀ i v, items[i]? = some v → ∃ b n, v = .ref b ∧ h0.get? b = some { cls := .type "list", data := .seq (lst i).toArray n }) :
    ∀ (k i : Nat) (s : Shared) (acc : Addr) (accs : List Value) (c na : Nat), items.size - i = k → i ≤ items.size → (∀ b o, h0.get? b = some o → s.heap.get? b = some o) → s.heap.IsListIter I l i →
      s.heap.get? S = some { cls := .type "list", dict := none, data := .seq #[.ref acc] c, slots := #[] } → acc ≠ I → acc ≠ S → s.heap.get? acc = some { cls := .type "list", data := .seq accs.toArray na } → accs.length + (rest lst i k).length ≤ sizeLine →
      (∀ h' tk acc' n', (∀ b o, h0.get? b = some o → h'.get? b = some o) → h'.get? acc' = some { cls := .type "list", data := .seq (accs ++ rest lst i k).toArray n' } → ((k = 0 ∧ acc' = acc) ∨ (k ≠ 0 ∧ h0.objs.size ≤ acc')) → R (.ok (.ret (.ref acc'))) { s with heap := h', toks := tk }) →
      codeAny (model prog w) A (.builtin "sum.loop" ⟨[.ref I, .ref S, rawInt 2, rawInt 0], []⟩) R s := by
  have hlI : l ≠ I := by
    obtain ⟨o, e, _⟩ := hl0
    exact Nat.ne_of_lt (Nat.lt_of_lt_of_le (Heap.lt_size e) hI)
  have W := Walks.list (prog := prog) (w := w) (A := A.in1) hh I l hlI items
  have old : ∀ {b : Addr} {o : Obj}, h0.get? b = some o → b ≠ I ∧ b ≠ S := fun e => ⟨Nat.ne_of_lt (Nat.lt_of_lt_of_le (Heap.lt_size e) hI), Nat.ne_of_lt (Nat.lt_of_lt_of_le (Heap.lt_size e) hS)⟩
  intro k
  induction k with
  | zero =>
    intro i s acc accs c na hk hi hkeep hit hSt ha1 ha2 hacc hsz hR
    have hin : i = items.size := by omega
    subst hin
    refine codeAny_builtin F.entry_sum_loop ?_
    rw [Around.under_plainId F.plain_sum_loop _]
    show wpAny _ A.in1 (seqItems? (.ref S) >>= _) _ _ s
    refine wpAny_bind (wpAny_seqItems hSt rfl ?_)
    show wpAny _ A.in1 (tryCatch (pyNext (.ref I)) _ >>= _) _ _ s
    refine wpAny_bind (wpAny_tryCatch (W.done s _ _ ⟨hit, hl0.at fun o e => hkeep _ _ e⟩ fun h' tk hm => ?_))
    refine wpAny_pure (hR h' tk acc na (fun b o e => hm b o (fun z => (old e).1 (by simpa using z)) (hkeep b o e)) ?_ (.inl ⟨rfl, rfl⟩))
    have : accs ++ rest lst items.size 0 = accs := List.append_nil _
    rw [this]
    exact hm acc _ (fun z => ha1 (by simpa using z)) hacc
  | succ k ih =>
    intro i s acc accs c na hk hi hkeep hit hSt ha1 ha2 hacc hsz hR
    have hlt : i < items.size := by omega
    refine codeAny_builtin F.entry_sum_loop ?_
    rw [Around.under_plainId F.plain_sum_loop _]
    show wpAny _ A.in1 (seqItems? (.ref S) >>= _) _ _ s
    refine wpAny_bind (wpAny_seqItems hSt rfl ?_)
    show wpAny _ A.in1 (tryCatch (pyNext (.ref I)) _ >>= _) _ _ s
    refine wpAny_bind (wpAny_tryCatch (W.item i s _ _ hlt ⟨hit, hl0.at fun o e => hkeep _ _ e⟩ fun v h' tk hP hst' hm => ?_))
    obtain ⟨b, n, rfl, hb⟩ := hv i v hP
    have nI : ∀ {x : Addr}, x ≠ I → x ∉ [I] := fun h z => h (by simpa using z)
    have hS' := hm S _ (nI (Ne.symm hIS)) hSt
    have hacc' := hm acc _ (nI ha1) hacc
    have hb' := hm b _ (nI (old hb).1) (hkeep _ _ hb)
    show wpAny _ A.in1 ((holding [Value.ref b] (binaryOp .Add (.ref acc) (.ref b))).attempt >>= _) _ _ _
    have hlen : accs.length + (lst i).length + (rest lst (i + 1) k).length ≤ sizeLine := by
      have e : (rest lst i (k + 1)).length = (lst i).length + (rest lst (i + 1) k).length := by
        show (lst i ++ rest lst (i + 1) k).length = _
        rw [List.length_append]
      omega
    refine wpAny_bind (wpAny_attempt (wpAny_holding (P.add_list (items := accs.toArray) (items2 := (lst i).toArray) hacc' hb' ?_ (by rw [List.size_toArray, List.size_toArray]; omega))))
    have hSp : (h'.push { cls := .type "list", data := .seq (accs.toArray ++ (lst i).toArray) }).get? S = _ := Heap.get?_push_of_some _ hS'
    show wpAny _ A.in1 (updateSeq S (fun _ => #[.ref h'.objs.size]) >>= _) _ _ _
    refine wpAny_bind (wpAny_updateSeq hSp rfl ?_)
    have hS2 := Heap.get?_update_self (Obj.mapSeq fun _ => #[Value.ref h'.objs.size]) hSp rfl
    refine wpAny_bind (wpAny_letGo ?_)
    refine wpAny_bind (wpAny_updateSeq hS2 rfl (wpAny_pure ⟨plainId_quiet F.plain_sum_loop _, ?_⟩))
    have hSlt : S < h'.objs.size := Heap.lt_size hS'
    have oth : ∀ {x : Addr} {o : Obj}, x ≠ S → (h'.push { cls := .type "list", data := .seq (accs.toArray ++ (lst i).toArray) }).get? x = some o → (((h'.push { cls := .type "list", data := .seq (accs.toArray ++ (lst i).toArray) }).update S (Obj.mapSeq fun _ => #[Value.ref h'.objs.size])).update S (Obj.mapSeq fun _ => #[Value.ref h'.objs.size])).get? x = some o := fun hx e =>
      (Heap.get?_update_other _ _ (Ne.symm hx)).trans ((Heap.get?_update_other _ _ (Ne.symm hx)).trans e)
    have kp : ∀ b o, h0.get? b = some o → h'.get? b = some o := fun x o e => hm x o (nI (old e).1) (hkeep x o e)
    have hsz0 : h0.objs.size ≤ h'.objs.size := Nat.le_trans hS (Nat.le_of_lt hSlt)
    have eAp : accs.toArray ++ (lst i).toArray = (accs ++ lst i).toArray := by simp
    refine ih (i + 1) _ h'.objs.size (accs ++ lst i) _ _ (by omega) hlt (fun x o e => oth (old e).2 (Heap.get?_push_of_some _ (kp x o e))) ?_ (Heap.get?_update_self _ hS2 rfl) (Nat.ne_of_gt (Heap.lt_size (hst'.1.choose_spec.1))) (Nat.ne_of_gt hSlt) (oth (Nat.ne_of_gt hSlt) ((Heap.get?_push_size _ rfl).trans (by rw [eAp]))) (by rw [List.length_append]; omega) fun h2 tk2 acc2 n2 k2 e2 w2 => ?_
    · exact hst'.1.at fun o e => oth hIS (Heap.get?_push_of_some _ e)
    · refine hR h2 tk2 acc2 n2 k2 ?_ (.inr ⟨Nat.succ_ne_zero k, ?_⟩)
      · rw [e2]
        show _ = some ({ cls := .type "list", data := .seq (accs ++ (lst i ++ rest lst (i + 1) k)).toArray n2 } : Obj)
        rw [List.append_assoc]
      · rcases w2 with ⟨_, w2⟩ | ⟨_, w2⟩
        · rw [w2]; exact hsz0
        · exact w2
end
section
variable {prog : Program} {w : World} {A : Around} {E : Value → Shared → Prop} {s : Shared} {l z : Addr} {items : Array Value} {lst : Nat → List Value}
theorem args_sum2 (a b : Value) : argsOk "sum" ⟨[a, b], []⟩ := by unfold argsOk; kernel_rfl
/-- sum(l, z): l a list of lists, z the empty list -/
theorem sum_lists (hh : A.handled = none) (hl : s.heap.IsList l items) {nz : Nat} (hz : s.heap.get? z = some { cls := .type "list", data := .seq #[] nz })
    (hv : ∀ i v, items[i]? = some v → ∃ b n, v = .ref b ∧ s.heap.get? b = some { cls := .type "list", data := .seq (lst i).toArray n }) (hsz : (rest lst 0 items.size).length ≤ sizeLine) {Q : Value → Shared → Prop}
    (hQ : ∀ h' tk a n, (∀ b o, s.heap.get? b = some o → h'.get? b = some o) → h'.get? a = some { cls := .type "list", data := .seq (rest lst 0 items.size).toArray n } → ((items.size = 0 ∧ a = z) ∨ (items.size ≠ 0 ∧ s.heap.objs.size ≤ a)) → Q (.ref a) { s with heap := h', toks := tk }) :
    wpAny (model prog w) A (call (.builtin "sum") [.ref l, .ref z]) Q E s := by
  refine call_function_tree F.kind_sum F.plain_sum F.entry_sum (args_sum2 _ _) ?_
  unfold Builtin.«sum»
  simp only [List.length_cons, List.length_nil]
  rw [if_neg (by decide)]
  refine wpAny_bind (wpAny_of_eq (show Builtin.Builtins.bindParams "sum" ["start"] 0 ⟨[.ref z], []⟩ = pure [some (.ref z)] from rfl) ?_)
  refine wpAny_bind (wpAny_pyIter_list hl ?_)
  have hlt : l < s.heap.objs.size := by obtain ⟨_, e, _⟩ := hl; exact Heap.lt_size e
  have k1 : ∀ b o, s.heap.get? b = some o → (s.heap.push { cls := .type "list_iterator", data := .fields #[.ref l, .int 0 0] }).get? b = some o := fun b o e => Heap.get?_push_of_some _ e
  have tz : ∀ {h : Heap} {t : Nat}, h.get? z = some { cls := .type "list", data := .seq #[] nz } → ({ s with heap := h, toks := t } : Shared).TypeIs (.ref z) "list" := fun e => ⟨_, e, rfl⟩
  refine wpAny_bind (wpAny_pure ?_)
  simp only [List.forIn_cons, List.forIn_nil]
  refine wpAny_bind (wpAny_bind (wpAny_bind (wpAny_isInstance (tz (k1 _ _ hz)) F.sub_list_str ?_)))
  simp only [Bool.false_eq_true, if_false]
  refine wpAny_pure (wpAny_bind (wpAny_bind (wpAny_isInstance (tz (k1 _ _ hz)) F.sub_list_bytes ?_)))
  simp only [Bool.false_eq_true, if_false]
  refine wpAny_pure (wpAny_bind (wpAny_bind (wpAny_isInstance (tz (k1 _ _ hz)) F.sub_list_bytearray ?_)))
  simp only [Bool.false_eq_true, if_false]
  refine wpAny_pure (wpAny_pure ?_)
  refine wpAny_bind (wpAny_newObj_type ?_)
  have hzlt : z < s.heap.objs.size := Heap.lt_size hz
  have sz1 : (s.heap.push { cls := .type "list_iterator", data := .fields #[.ref l, .int 0 0] }).objs.size = s.heap.objs.size + 1 := Heap.size_push ..
  refine wpAny_pure ⟨plainId_quiet F.plain_sum_loop _, sum_loop (h0 := s.heap) (I := s.heap.objs.size) (S := (s.heap.push { cls := .type "list_iterator", data := .fields #[.ref l, .int 0 0] }).objs.size) hh hl (Nat.le_refl _) (by rw [sz1]; exact Nat.le_succ _) (by rw [sz1]; exact Nat.ne_of_lt (Nat.lt_succ_self _)) hv items.size 0 _ z [] 0 nz rfl (Nat.zero_le _) (fun b o e => Heap.get?_push_of_some _ (k1 b o e)) ?_ ?_ (Nat.ne_of_lt hzlt) (by rw [sz1]; exact Nat.ne_of_lt (Nat.lt_succ_of_lt hzlt)) (Heap.get?_push_of_some _ (k1 _ _ hz)) (by rw [List.length_nil, Nat.zero_add]; exact hsz) fun h' tk a n k e w => ?_⟩
  · exact ⟨_, Heap.get?_push_of_some _ (Heap.get?_push_size _ rfl), rfl, rfl⟩
  · exact Heap.get?_push_size _ rfl
  · exact hQ h' tk a n k (by rw [e, List.nil_append]) w
end
end HvS
set_option Elab.async false
set_option linter.all false
set_option maxRecDepth 100000
set_option maxHeartbeats 1000000
/-! Rules at the level of calls: sum of lists, min, max, str of a text, repr, calls by keyword, defaults. -/
namespace Nv
open PySem PySem.Spec PyProof.Rows L2 StX NvZ
section
variable {X : Cx} {a b e : Expr} {ta tb te : TE} {p pos : Pos}
/-- sum(l, z) of lists -/
def rSumL : List V → Hp → VK → Prop := fun xs H Q => ∃ (l z : Addr) (bs : List Addr) (lst : List (List V)), xs = [.ref l, .ref z] ∧ H l = some (.lst (bs.map V.ref)) ∧ H z = some (.lst []) ∧ bs.length = lst.length ∧
  (∀ (i : Nat) b, bs[i]? = some b → ∃ ys, lst[i]? = some ys ∧ H b = some (.lst ys)) ∧ lst.flatten.length ≤ sizeLine ∧ (lst = [] → Q (.ref z) H) ∧ (lst ≠ [] → ∀ p, H p = none → Q (.ref p) (upd H p (.lst lst.flatten)))
theorem refs_of : ∀ {bs : List Addr} {its : List Value}, Vals (bs.map V.ref) its → its = bs.map Value.ref
  | [], its, h => by cases h; rfl
  | b :: bs, its, h => by
    cases h with
    | cons r t =>
      cases r
      rw [refs_of t]; rfl
theorem vals_rest {ws : Nat → List Value} : ∀ (lst : List (List V)) (i : Nat), (∀ j ys, lst[j]? = some ys → Vals ys (ws (i + j))) → Vals lst.flatten (HvS.rest ws i lst.length)
  | [], _, _ => .nil
  | ys :: lst, i, h => by
    show Vals (ys ++ lst.flatten) (ws i ++ HvS.rest ws (i + 1) lst.length)
    refine (h 0 ys rfl).append (vals_rest lst (i + 1) fun j zs hj => ?_)
    have := h (j + 1) zs hj
    rwa [show i + (j + 1) = i + 1 + j by omega] at this
theorem vals_len : ∀ {xs : List V} {us : List Value}, Vals xs us → us.length = xs.length
  | _, _, .nil => rfl
  | _, _, .cons _ t => congrArg (· + 1) (vals_len t)
theorem cr_sumL (hc : X.calm = true) : CallR X (.builtin "sum") rSumL := by
  intro pins s σ H vs us Q I r h
  obtain ⟨l, z, bs, lst, rfl, hl, hz, hn, hb, hs, q0, q1⟩ := h
  obtain ⟨u1, u2, rfl, r1, r2⟩ := vals2 r
  cases r1
  cases r2
  obtain ⟨_, its, n, rv, gl⟩ := I.hok l _ hl
  obtain ⟨_, itz, nz, rz, gz⟩ := I.hok z _ hz
  cases rz
  have e := refs_of rv
  subst e
  have ch : ∀ i : Nat, ∃ ws : List Value, ∀ b, bs[i]? = some b → (∃ n, s.heap.get? b = some { cls := .type "list", data := .seq ws.toArray n }) ∧ ∀ ys, lst[i]? = some ys → Vals ys ws := fun i => by
    cases hi : bs[i]? with
    | none => exact ⟨[], fun b hb => nomatch hb⟩
    | some b =>
      obtain ⟨ys, h1, h2⟩ := hb i b hi
      obtain ⟨_, ws, n, rw1, gb⟩ := I.hok b _ h2
      refine ⟨ws, fun b' hb' => ?_⟩
      cases hb'
      refine ⟨⟨n, gb⟩, fun ys' h' => ?_⟩
      rw [h1] at h'
      cases h'
      exact rw1
  let ws : Nat → List Value := fun i => Classical.choose (ch i)
  have hw : ∀ i b, bs[i]? = some b → (∃ n, s.heap.get? b = some { cls := .type "list", data := .seq (ws i).toArray n }) ∧ ∀ ys, lst[i]? = some ys → Vals ys (ws i) := fun i => Classical.choose_spec (ch i)
  have size : (bs.map Value.ref).toArray.size = lst.length := by simp [hn]
  have vr : Vals lst.flatten (HvS.rest ws 0 lst.length) := vals_rest lst 0 fun j ys hj => by
    have hlt : j < bs.length := by rw [hn]; exact (List.getElem?_eq_some_iff.mp hj).1
    rw [Nat.zero_add]
    exact (hw j _ (List.getElem?_eq_getElem hlt)).2 ys hj
  refine HvS.sum_lists (lst := ws) (I.ok.hd hc) (items := (bs.map Value.ref).toArray) ⟨_, gl, rfl, _, rfl⟩ gz (fun i v hv => ?_) (by rw [size, vals_len vr]; exact hs) fun h' tk a m hk ha hw' => ?_
  · rw [List.getElem?_toArray, List.getElem?_map, Option.map_eq_some_iff] at hv
    obtain ⟨b, hb', rfl⟩ := hv
    obtain ⟨⟨n, g⟩, _⟩ := hw i b hb'
    exact ⟨b, n, rfl, g⟩
  · rw [size] at ha hw'
    rcases hw' with ⟨h0, rfl⟩ | ⟨h0, hsz⟩
    · exact ⟨.ref a, H, I.kept hk, rfl, q0 (List.length_eq_zero_iff.mp h0)⟩
    · exact ⟨.ref a, _, I.laid (o := .lst lst.flatten) hk hsz ⟨hs, _, m, vr, ha⟩, rfl, q1 (fun z => h0 (by rw [z]; rfl)) a (I.hok.fresh hsz)⟩
/-! ### built-ins by name -/
structure BltH (mg : Str → Option Value) : Prop where
  min : mg "min" = none
  max : mg "max" = none
  sum : mg "sum" = none
  repr : mg "repr" = none
theorem bt_min : bootBuiltins "min" = some (.builtin "min") := by decide +kernel
theorem bt_max : bootBuiltins "max" = some (.builtin "max") := by decide +kernel
theorem bt_sum : bootBuiltins "sum" = some (.builtin "sum") := by decide +kernel
theorem bt_repr : bootBuiltins "repr" = some (.builtin "repr") := by decide +kernel
def rMax2 : List V → Hp → VK → Prop := fun xs H Q => ∃ i j, xs = [.int i, .int j] ∧ Q (.int (if j > i then j else i)) H
def rMin2 : List V → Hp → VK → Prop := fun xs H Q => ∃ i j, xs = [.int i, .int j] ∧ Q (.int (if j < i then j else i)) H
theorem pe_min (B : BltH X.mg) (hc : X.calm = true) (ha : PA X [a, b] (tCons ta (tCons tb tNil))) (hg : Gl X "min" := by rfl) (he : starEach [a, b] X.env = (false, eval a X.env) :: starEach [b] X.env := by rfl) (hpl : (backTo pos (starEach [b] X.env)).any (·.1) = false := by rfl) : PE X (.Call (.Name "min" p) [a, b] [] pos) (tCB rMin2 (tCons ta (tCons tb tNil))) :=
  pe_callB (call_min2 hc) hg B.min bt_min ha (by decide) (by decide) he hpl
theorem pe_max (B : BltH X.mg) (hc : X.calm = true) (ha : PA X [a, b] (tCons ta (tCons tb tNil))) (hg : Gl X "max" := by rfl) (he : starEach [a, b] X.env = (false, eval a X.env) :: starEach [b] X.env := by rfl) (hpl : (backTo pos (starEach [b] X.env)).any (·.1) = false := by rfl) : PE X (.Call (.Name "max" p) [a, b] [] pos) (tCB rMax2 (tCons ta (tCons tb tNil))) :=
  pe_callB (call_max2 hc) hg B.max bt_max ha (by decide) (by decide) he hpl
theorem pe_sumL (B : BltH X.mg) (hc : X.calm = true) (ha : PA X [a, b] (tCons ta (tCons tb tNil))) (hg : Gl X "sum" := by rfl) (he : starEach [a, b] X.env = (false, eval a X.env) :: starEach [b] X.env := by rfl) (hpl : (backTo pos (starEach [b] X.env)).any (·.1) = false := by rfl) : PE X (.Call (.Name "sum" p) [a, b] [] pos) (tCB rSumL (tCons ta (tCons tb tNil))) :=
  pe_callB (cr_sumL hc) hg B.sum bt_sum ha (by decide) (by decide) he hpl
/-- str(x) of an int or a text -/
def rStrIS : List V → Hp → VK → Prop := fun xs H Q => (∃ i : Int, xs = [.int i] ∧ i.natAbs.log2 < 1920 ∧ Q (.str (toString i)) H) ∨ ∃ a, xs = [.str a] ∧ Q (.str a) H
theorem cr_strIS : CallR X (.type "str") rStrIS := fun pins s σ H xs us Q I r h => h.elim (fun h => call_str_int pins s σ H xs us Q I r h) fun h => SkE.call_str_str pins s σ H xs us Q I r h
theorem pe_strIS (B : Blt X.mg) (ha : PE X a ta) (hg : Gl X "str" := by rfl) (he : starEach [a] X.env = (false, eval a X.env) :: starEach [] X.env := by rfl) : PE X (.Call (.Name "str" p) [a] [] pos) (tCB rStrIS (tCons ta tNil)) :=
  pe_callTy cr_strIS hg B.str bt_str (pa_cons ha pa_nil he) (by decide) (by decide) he
/-! ### texts compared -/
abbrev rLtS : R2 := fun x y H Q => ∃ i j, x = .str i ∧ y = .str j ∧ Q (.bl (decide (i.cps.toList < j.cps.toList))) H
abbrev rGtS : R2 := fun x y H Q => ∃ i j, x = .str i ∧ y = .str j ∧ Q (.bl (decide (j.cps.toList < i.cps.toList))) H
/-! ### calls by keyword -/
structure CalK (P : Program) (w : World) (K : PySem.W.Frag) (mg : Str → Option Value) (base : Heap) (CX : CXT) (k : Nat) (x kw : Str) (ps : List Str) (dvs : List V) (sp : Sp) : Prop where
  ex : ∃ f fd ds, mg x = some (.ref f) ∧ PySem.W.keepIn K (.ref f) = true ∧ Vals dvs ds ∧ KBinds K fd ps [kw] (fun us ws => us ++ ws ++ ds) (fun vs zs => vs ++ zs ++ dvs) ∧ FnOk P w K mg base CX k f fd ps sp
def tKw (sp : Sp) (dvs : List V) (E : XK) (te : TE) : TE := fun σ H Q => te σ H fun v H1 => sp (v :: dvs) H1 Q E
theorem pe_calK {CX : CXT} {k : Nat} {x kw : Str} {ps : List Str} {dvs : List V} {sp : Sp} {E : XK} {kpos : Pos} (c : CalK X.prog X.w X.K X.mg X.base CX k x kw ps dvs sp) (hr : Room k X.A) (hx : Passes CX X E) (hk0 : PK X [⟨some kw, e, kpos⟩] (tCons te tNil)) (hg : Gl X x := by rfl)
    (hdb : (x == ("__debug__" : Str)) = false := by decide) (hall : (backToKw pos (keywordEach [⟨some kw, e, kpos⟩] X.env)).all (·.1.isSome) = true := by rfl) (hks : (backToKw pos (keywordEach [⟨some kw, e, kpos⟩] X.env)).filterMap (·.1) = [kw] := by rfl)
    (hpl : ((backTo pos (starEach [] X.env)).any (·.1) || (backToKw pos (keywordEach [⟨some kw, e, kpos⟩] X.env)).any (·.1.isNone)) = false := by rfl) : PE X (.Call (.Name x p) [] [⟨some kw, e, kpos⟩] pos) (tKw sp dvs E te) := by
  obtain ⟨f, fd, ds, hm, hk, hd, hb, F⟩ := c.ex
  refine ⟨fun pins s σ H Q I h => ?_⟩
  refine wpAny_Call_Name_kw (ld_glob I hg hm ?_ hdb)
  have h' : (tCons te tNil : TA) σ H fun zs H1 => sp ([] ++ zs ++ dvs) H1 Q E := h
  refine PySem.W.callWith_KW0 (h₀ := X.base) I.ok.mod.kin hk hall (thn (hk0.run pos pins s σ H _ I h') fun ws s2 ⟨zs, H2, I2, rz, q2⟩ => ⟨I2.kIn, ?_⟩) hpl
  rw [hks]
  exact run_fnk (us := []) (vs := []) F hr hb hx I2 .nil rz q2
/-- a call that leaves defaults to be filled in -/
structure CalD (P : Program) (w : World) (K : PySem.W.Frag) (mg : Str → Option Value) (base : Heap) (CX : CXT) (k : Nat) (x : Str) (ps : List Str) (dvs : List V) (sp : Sp) : Prop where
  ex : ∃ f fd ds, mg x = some (.ref f) ∧ PySem.W.keepIn K (.ref f) = true ∧ Vals dvs ds ∧ Binds K fd ps ds ∧ FnOk P w K mg base CX k f fd ps sp
theorem pe_calD {CX : CXT} {k : Nat} {x : Str} {ps : List Str} {dvs : List V} {sp : Sp} {E : XK} {es : List Expr} {t : TA} (c : CalD X.prog X.w X.K X.mg X.base CX k x ps dvs sp) (hr : Room k X.A) (hx : Passes CX X E) (ha : PA X (e :: es) t) (hg : Gl X x := by rfl)
    (hdb : (x == ("__debug__" : Str)) = false := by decide) (he : starEach (e :: es) X.env = (false, eval e X.env) :: starEach es X.env := by rfl) (hpl : (backTo pos (starEach es X.env)).any (·.1) = false := by rfl) :
    PE X (.Call (.Name x p) (e :: es) [] pos) (tCall sp dvs E t) := by
  obtain ⟨f, fd, ds, hm, hk, hd, hb, F⟩ := c.ex
  exact pe_call F hr hg hm hk hb hd hx ha hdb he hpl
end
end Nv
set_option Elab.async false
set_option linter.all false
set_option maxRecDepth 100000
set_option maxHeartbeats 4000000
/-! != of a dict and a text. -/
namespace NvV
open PySem PySem.SeqAt PySem.Calls PyProof.Rows PySem.W
variable {prog : Program} {w : World} {Kt : Type} [DecidableEq Kt] {knd : KeyKind prog w Kt} {A : Around} {E : Value → Shared → Prop} {s : Shared}
theorem dict_call {a : Addr} {ka : List (Kt × Value)} {t : Str} {u : Tok} {Q : Value → Shared → Prop} (da : s.heap.DictOf knd a ka) (h : Q .notImplemented s) : wpAny (model prog w) A (call (.builtin "dict.__ne__") [.ref a, .str t u]) Q E s := by
  refine wpAny_call_entry PySem.F.slot_dict_ne da.typeIs PySem.F.entry_dict_ne ?_ (PySem.F.args_dict_ne_2 _ _)
  show wpAny _ _ (Builtin.Dict.dictSlotArgs "__ne__" ⟨[.ref a, .str t u], []⟩ >>= _) _ _ s
  refine wpAny_bind ?_
  unfold Builtin.Dict.dictSlotArgs
  refine wpAny_bind (wpAny_notOrdered_dict da.typeIs ?_)
  show wpAny _ _ (pure (Value.ref a, Value.str t u)) _ _ s
  refine wpAny_pure ?_
  refine wpAny_bind (wpAny_isInstance (T := "str") (typeIs_str s t u) PySem.F.sub_str_dict ?_)
  simp only [Bool.not_false, if_true]
  wp_walk
  exact ⟨_, rfl, h⟩
open PySem.AutoSeq1 (wpAny_loadPart') in
theorem str_decl (b : Str) (u : Tok) (l : Addr) (c : Value) (es : Array DictEntry) (n : Nat) (dd : Option Addr) (sl : Array (Option Value)) :
    Meets (Builtin.«str.__ne__» ⟨[.str b u, .ref l], []⟩) (fun _ R s => s.heap.get? l = some { cls := c, dict := dd, data := .dict es n, slots := sl } ∧ R (.ok (.ret .notImplemented)) s) :=
  .of_wp fun prog w A R s h => by obtain ⟨hp, g, d, tk, os⟩ := s; obtain ⟨hl, h⟩ := h; wp_walk using wpAny_loadPart' hl, wpAny_load hl; exact ⟨_, rfl, h⟩
theorem ne_dict_str {a : Addr} {ka : List (Kt × Value)} {t : Str} {u : Tok} {Q : Value → Shared → Prop} (da : s.heap.DictOf knd a ka) (hu : A.units < cLine) (h : Q (.bool true) s) : wpAny (model prog w) A (compareOp .NotEq (.ref a) (.str t u)) Q E s := by
  refine rc_ne_decline_or (k := false) da.typeIs (typeIs_str s t u) (by decide) PySem.F.sub_str_dict PySem.F.slot_dict_ne PySem.F.slot_str_ne_refl (fun Q' hq => dict_call da hq) (fun Q' hq => ?_) (fun _ hq => wpAny_of_eq (rfl : isSame (.ref a) (.str t u) = pure false) hq) (.inr hu) h
  obtain ⟨⟨cls, dd, data, sl⟩, es, ep, ho, hx, hd, _⟩ := id da
  simp only at hd
  subst hd
  exact call_meets PySem.F.slot_str_ne_refl (typeIs_str s t u) PySem.F.entry_str_ne (PySem.F.args_str_ne_2 _ _) (str_decl t u a cls es ep dd sl) ⟨ho, hq⟩
end NvV
namespace Nv
open PySem PySem.Spec PyProof.Rows L2 StX NvZ
/-- != of data, and of a dict and a text -/
def rNeE (K : PySem.W.Frag) : V → V → Hp → VK → Prop := fun x y H Q => rNeD K x y H Q ∨ ∃ a kvs t, x = .ref a ∧ y = .str t ∧ H a = some (.dK kvs) ∧ Q (.bl true) H
theorem op_neE {X : Cx} (hu : X.A.units + 64 < cLine) : OpR X (compareOp .NotEq) (rNeE X.K) := by
  intro pins s σ H x y v u Q I rx ry h
  rcases h with h | ⟨a, kvs, t, rfl, rfl, ea, q⟩
  · exact op_neD hu pins s σ H x y v u Q I rx ry h
  · obtain rfl : v = Value.ref a := rx
    obtain ⟨_, ya, va, ra, da⟩ := (show ObjOk X.prog X.w H s.heap a (.dK kvs) from I.hok a _ ea)
    obtain ⟨tok, rfl⟩ := ry
    refine NvV.ne_dict_str da (Nat.lt_of_le_of_lt (Nat.le_add_right _ _) hu) ?_
    exact ⟨.bl true, H, I, rfl, q⟩
end Nv
set_option Elab.async false
set_option linter.all false
set_option maxRecDepth 100000
set_option maxHeartbeats 4000000
/-! The facts of the text of k91, by names. -/
namespace Nv
open PySem PySem.Spec PyProof.Rows L2 StX NvZ
/-- addresses of the text's things -/
structure Ads where
  cScan : Addr
  cHouse : Addr
  cBadText : Addr
  iBadText : Addr
  cBadHouse : Addr
  iBadHouse : Addr
  cMisfit : Addr
  iMisfit : Addr
  tROOMS : Addr
  tGUARDS : Addr
  tREMEMBERS : Addr
  tORDERS : Addr
  tNEEDS : Addr
  tBREAKS : Addr
  tCOLLECTORS : Addr
  tTRUTHS : Addr
structure Tx (A : Ads) (P : Program) (w : World) (K : PySem.W.Frag) (mg : Str → Option Value) : Prop where
  gROOMS : mg "ROOMS" = some (.ref A.tROOMS)
  gGUARDS : mg "GUARDS" = some (.ref A.tGUARDS)
  gREMEMBERS : mg "REMEMBERS" = some (.ref A.tREMEMBERS)
  gORDERS : mg "ORDERS" = some (.ref A.tORDERS)
  gNEEDS : mg "NEEDS" = some (.ref A.tNEEDS)
  gBREAKS : mg "BREAKS" = some (.ref A.tBREAKS)
  gCOLLECTORS : mg "COLLECTORS" = some (.ref A.tCOLLECTORS)
  gTRUTHS : mg "TRUTHS" = some (.ref A.tTRUTHS)
  gNONE : GloS mg "NONE" "-"
  gFREE : GloS mg "FREE" "free"
  gFIGURES : GloS mg "FIGURES" "0123456789"
  gMOST_CELLS : GloI mg "MOST_CELLS" 12
  gMOST_KINDS : GloI mg "MOST_KINDS" 3
  gMOST_SIZE : GloI mg "MOST_SIZE" 3
  gMOST_LINKS : GloI mg "MOST_LINKS" 2
  gMOST_REGISTERS : GloI mg "MOST_REGISTERS" 4
  gMOST_PACE : GloI mg "MOST_PACE" 6
  gMOST_COUNT : GloI mg "MOST_COUNT" 3
  gScan : mg "Scan" = some (.ref A.cScan)
  clScan : Cls K A.cScan
  gHouse : mg "House" = some (.ref A.cHouse)
  clHouse : Cls K A.cHouse
  xBadText : NvX.Txt P K mg "BadText" A.cBadText A.iBadText ["line", "word"]
  xBadHouse : NvX.Txt P K mg "BadHouse" A.cBadHouse A.iBadHouse ["part"]
  xMisfit : NvX.Txt P K mg "Misfit" A.cMisfit A.iMisfit ["part"]
/-- C(..): its __init__ -/
structure Ini (P : Program) (w : World) (K : PySem.W.Frag) (mg : Str → Option Value) (base : Heap) (CX : CXT) (k : Nat) (C : Addr) (ps : List Str) (sp : Sp) : Prop where
  ex : ∃ f fd, Mk K C f ∧ Binds K fd ps [] ∧ ∃ j, k = j + 1 ∧ FnOk P w K mg base CX j f fd ps sp
theorem pe_ini {X : Cx} {CX : CXT} {k : Nat} {C : Addr} {x : Str} {ps : List Str} {sp : Sp} {E : XK} {p pos : Pos} {e : Expr} {es : List Expr} {t : TA} (c : Ini X.prog X.w X.K X.mg X.base CX k C ps sp) (hr : Room k X.A) (hx : Passes CX X E) (hm : X.mg x = some (.ref C)) (ha : PA X (e :: es) t) (hg : Gl X x := by rfl)
    (hdb : (x == ("__debug__" : Str)) = false := by decide) (he : starEach (e :: es) X.env = (false, eval e X.env) :: starEach es X.env := by rfl) (hpl : (backTo pos (starEach es X.env)).any (·.1) = false := by rfl) :
    PE X (.Call (.Name x p) (e :: es) [] pos) (tMake C sp [] E t) := by
  obtain ⟨f, fd, h1, h2, j, rfl, h3⟩ := c.ex
  exact pe_make h1 h3 hr hg hm h2 .nil hx ha hdb he hpl
abbrev FnP (K : PySem.W.Frag) (x q : Str) (st : Stmt) (dvs : List V) (f : Addr) (fd : FuncData) : Prop := FunD K x q (defArgs st) (defBody st) (defScope st) dvs [] f fd
/-- C has an own == -/
structure CmpO (P : Program) (w : World) (K : PySem.W.Frag) (mg : Str → Option Value) (base : Heap) (k : Nat) (C : Addr) (sp : Sp) : Prop where
  ex : ∃ f fd ps j, OwnQ K C f ∧ Binds K fd ps [] ∧ k = j + 1 ∧ FnOk P w K mg base CX0 j f fd ps sp
theorem op_eqH {X : Cx} {k : Nat} {C : Addr} {sp : Sp} (c : CmpO X.prog X.w X.K X.mg X.base k C sp) (hr : Room k X.A) : OpR X (compareOp .Eq) (rEqO C sp false) := by
  obtain ⟨f, fd, ps, j, O, hb, rfl, F⟩ := c.ex
  exact op_eqO O F hb (hr.mono (Nat.le_succ _))
theorem op_neH {X : Cx} {k : Nat} {C : Addr} {sp : Sp} (c : CmpO X.prog X.w X.K X.mg X.base k C sp) (hr : Room k X.A) : OpR X (compareOp .NotEq) (rEqO C sp true) := by
  obtain ⟨f, fd, ps, j, O, hb, rfl, F⟩ := c.ex
  exact op_neO O F hb hr
/-- slices: a tuple's whole is itself -/
def rSlX (K : PySem.W.Frag) : V → Option Int → Option Int → Hp → VK → Prop := fun x lo hi H Q => rSlL K x lo hi H Q ∨ rSlA K x lo hi H Q
theorem sl_any {X : Cx} : SlR X (rSlX X.K) := sl_list.or sl_tupA
/-- a comprehension within a comprehension: it captures nothing -/
def scE : Scope := { kind := .function, names := [], isGenerator := false, isCoroutine := false }
theorem blkOk_any {N : List Str} {sc scope : Scope} {own : List (Str × Nat)} (h : blkC N scE scope own = true) : BlkOk N sc scope own := by
  have b := blkOk_by h
  refine ⟨b.kind, b.uniq, b.ix, fun y hy e => ?_, b.own⟩
  rcases b.free y hy e with z | z <;> cases z
end Nv
set_option Elab.async false
set_option linter.all false
set_option maxRecDepth 100000
set_option maxHeartbeats 4000000
namespace Nv
open PySem PySem.Spec PyProof.Rows L2 StX NvZ
def t_law_pen (K : PySem.W.Frag) (A : Ads) (E : XK) : TS := (tRet (tDisp [((tC (.str "row")), (tSl (rSlX K) (tLc (iSeq K (tVar 0)) (gName 1) tYes (tVar 1) [1]) tNoPart (tPart (tC (.int 80))))), ((tC (.str "at")), (tC (.int 0))), ((tC (.str "rest")), (tC (.int 0)))]))
def t_law_draw (K : PySem.W.Frag) (A : Ads) (E : XK) : TS := (tSeq (tIfS (tTest (tOp rGtI (tDGet (tVar 0) (tC (.str "rest"))) (tC (.int 0)))) (tSeq (tAsg (tCB rIntI (tCons (tDGet (tVar 0) (tC (.str "rest"))) tNil)) (gName 2))
  (tSeq (sDPut (tVar 0) (tC (.str "rest")) (tOp rDivI (tVar 2) (tVar 1)))
  (tRet (tOp rModI (tCB rIntI (tCons (tVar 2) tNil)) (tVar 1))))) tNext)
  (tSeq (tPar 3 4 (tCons (tDGet (tVar 0) (tC (.str "at"))) (tCons (tDGet (tVar 0) (tC (.str "row"))) tNil)))
  (tSeq (sDPut (tVar 0) (tC (.str "at")) (tOp rAddI (tVar 3) (tC (.int 1))))
  (tSeq (tAsg (tOp rAddI (tOp rMulI (tC (.int 28924)) (tVar 3)) (tC (.int 8388))) (gName 5))
  (tSeq (tIfS (tTest (tOp (rNeD K) (tVar 4) (tLst tNil))) (tAsg (tOp (rIx K) (tVar 4) (tOp rModI (tCB rIntI (tCons (tVar 3) tNil)) (tCB (rLenV K) (tCons (tVar 4) tNil)))) (gName 5)) tNext)
  (tSeq (tAsg (tIf (tAnd (tB (tCB (rIsi K) (tCons (tVar 5) (tCons (tC (.ty "int")) tNil)))) (tNot (tB (tCB (rIsi K) (tCons (tVar 5) (tCons (tC (.ty "bool")) tNil)))))) (tVar 5) (tC (.int 0))) (gName 6))
  (tSeq (tIfS (tAnd (tTest (tOp rLtI (tVar 3) (tCB (rLenV K) (tCons (tVar 4) tNil)))) (tTest (tOp rGeI (tCB rAbs (tCons (tVar 6) tNil)) (tOp rPowI (tC (.int 10)) (tC (.int 18)))))) (tSeq (tAsg (tOp rAddI (tOp rMulI (tC (.int 2)) (tOp rSubI (tCB rAbs (tCons (tVar 6) tNil)) (tOp rPowI (tC (.int 10)) (tC (.int 18))))) (tCB rIntI (tCons (tOp rLtI (tVar 6) (tC (.int 0))) tNil))) (gName 2))
  (tSeq (sDPut (tVar 0) (tC (.str "rest")) (tOp rDivI (tCB rIntI (tCons (tVar 2) tNil)) (tVar 1)))
  (tRet (tOp rModI (tCB rIntI (tCons (tVar 2) tNil)) (tVar 1))))) tNext)
  (tSeq (tAsg (tOp rModI (tCB rIntI (tCons (tOp rPowI (tOp rAddI (tOp rAddI (tOp rModI (tCB rIntI (tCons (tVar 6) tNil)) (tC (.int 2147483549))) (tOp rMulI (tC (.int 100202)) (tVar 3))) (tC (.int 8388))) (tC (.int 5))) tNil)) (tC (.int 2147483563))) (gName 7))
  (tSeq (tAsg (tOp rModI (tCB rIntI (tCons (tOp rPowI (tOp rAddI (tOp rAddI (tOp rMulI (tVar 7) (tOp rAddI (tOp rMulI (tC (.int 2)) (tVar 3)) (tC (.int 7942)))) (tOp rMulI (tOp rMulI (tC (.int 108744)) (tVar 3)) (tVar 3))) (tC (.int 100202))) (tC (.int 3))) tNil)) (tC (.int 2147483579))) (gName 7))
  (tRet (tOp rModI (tCB rIntI (tCons (tOp rDivI (tVar 7) (tC (.int 32))) tNil)) (tVar 1))))))))))))
def t_law_pick (K : PySem.W.Frag) (A : Ads) (E : XK) (sp_law_draw : Sp) : TS := (tRet (tOp (rIx K) (tVar 1) (tCall sp_law_draw [] E0 (tCons (tVar 0) (tCons (tCB (rLenV K) (tCons (tVar 1) tNil)) tNil)))))
def t_law_lot (K : PySem.W.Frag) (A : Ads) (E : XK) (sp_law_draw : Sp) : TS := (tRet (tLc (iSeq K (tVar 1)) (gName 3) (tTest (tOp (rEqD K) (tCall sp_law_draw [] E0 (tCons (tVar 0) (tCons (tVar 2) tNil))) (tC (.int 0)))) (tVar 3) [3]))
def t_law_any_plain (K : PySem.W.Frag) (A : Ads) (E : XK) (sp_law_draw : Sp) (sp_law_lot : Sp) (sp_law_pick : Sp) : TS := (tSeq (tAsg (tOp rAddI (tC (.int 1)) (tCall sp_law_draw [] E0 (tCons (tVar 0) (tCons (tC (.int 3)) tNil)))) (gName 1))
  (tSeq (tAsg (tLst tNil) (gName 2))
  (tSeq (tFor (iRng1 (tCons (tVar 1) tNil)) (gName 3) (tSeq (tAsg (tOp rAddI (tC (.int 1)) (tCall sp_law_draw [] E0 (tCons (tVar 0) (tCons (tC (.int 3)) tNil)))) (gName 4))
  (tDrop (tBM K "list" rAppend (tVar 2) (tCons (tTup (tCons (tVar 4) (tCons (tCB (rTupOf K) (tCons (tLc (iRng1 (tCons (tCall sp_law_draw [] E0 (tCons (tVar 0) (tCons (tOp rAddI (tCB rMin2 (tCons (tVar 4) (tCons (tC (.int 2)) tNil))) (tC (.int 1))) tNil))) tNil)) (gName 7) tYes (tCB (rTupOf K) (tCons (tCall sp_law_lot [] E0 (tCons (tVar 0) (tCons (tLstRg (tRg1 (tVar 1))) (tCons (tC (.int 2)) tNil)))) tNil)) [7]) tNil)) tNil))) tNil)))))
  (tSeq (tAsg (tCall sp_law_pick [] E0 (tCons (tVar 0) (tCons (tLst (tCons (tC (.str "none")) (tCons (tC (.str "counts")) (tCons (tC (.str "marks")) (tCons (tC (.str "halves")) (tCons (tC (.str "young")) tNil)))))) tNil))) (gName 5))
  (tSeq (tAsg (tDisp [((tC (.str "cells")), (tOp rAddI (tC (.int 2)) (tCall sp_law_draw [] E0 (tCons (tVar 0) (tCons (tC (.int 11)) tNil))))), ((tC (.str "kinds")), (tCB (rTupOf K) (tCons (tVar 2) tNil))), ((tC (.str "registers")), (tOp rAddI (tC (.int 1)) (tCall sp_law_draw [] E0 (tCons (tVar 0) (tCons (tC (.int 4)) tNil))))), ((tC (.str "live")), (tOp rAddI (tC (.int 1)) (tCall sp_law_draw [] E0 (tCons (tVar 0) (tCons (tC (.int 12)) tNil))))), ((tC (.str "rooms")), (tC (.str "first"))), ((tC (.str "pace")), (tC (.int 0))), ((tC (.str "need")), (tC (.str "finish"))), ((tC (.str "slide")), (tC (.bl false)))]) (gName 6))
  (tSeq (sDPut (tVar 6) (tC (.str "asked")) (tCB (rTupOf K) (tCons (tOp rCat (tCall sp_law_lot [] E0 (tCons (tVar 0) (tCons (tLst (tCons (tC (.str "full")) (tCons (tC (.str "lost")) tNil))) (tCons (tC (.int 2)) tNil)))) (tLst (tCons (tC (.str "swept")) tNil))) tNil)))
  (tSeq (sDPut (tVar 6) (tC (.str "collector")) (tTup (tCons (tVar 5) tNil)))
  (tSeq (tIfS (tTest (tOp (rIn K false) (tVar 5) (tTup (tCons (tC (.str "none")) (tCons (tC (.str "counts")) (tCons (tC (.str "marks")) tNil)))))) (tDrop (tBM K "dict" rDUpd (tVar 6) (tCons (tDisp [((tC (.str "rooms")), (tCall sp_law_pick [] E0 (tCons (tVar 0) (tCons (tLst (tCons (tC (.str "first")) (tCons (tC (.str "last")) (tCons (tC (.str "best")) (tCons (tC (.str "worst")) (tCons (tC (.str "buddy")) (tCons (tC (.str "slots")) tNil))))))) tNil)))), ((tC (.str "need")), (tCall sp_law_pick [] E0 (tCons (tVar 0) (tCons (tLst (tCons (tC (.str "finish")) (tCons (tC (.str "refuse")) tNil))) tNil))))]) tNil))) tNext)
  (tSeq (tIfS (tTest (tOp (rEqD K) (tVar 5) (tC (.str "counts")))) (sDPut (tVar 6) (tC (.str "collector")) (tTup (tCons (tVar 5) (tCons (tCall sp_law_pick [] E0 (tCons (tVar 0) (tCons (tLst (tCons (tC .non) (tCons (tC (.int 1)) (tCons (tC (.int 2)) (tCons (tC (.int 3)) tNil))))) tNil))) (tCons (tCall sp_law_pick [] E0 (tCons (tVar 0) (tCons (tLst (tCons (tC (.str "more")) (tCons (tC (.str "less")) tNil))) tNil))) tNil))))) tNext)
  (tSeq (tIfS (tTest (tOp (rEqD K) (tVar 5) (tC (.str "marks")))) (tSeq (sDPut (tVar 6) (tC (.str "collector")) (tTup (tCons (tVar 5) (tCons (tCB (rTupOf K) (tCons (tCall sp_law_lot [] E0 (tCons (tVar 0) (tCons (tLst (tCons (tC (.str "after")) (tCons (tC (.str "again")) (tCons (tC (.str "before")) (tCons (tC (.str "black")) (tCons (tC (.str "load")) tNil)))))) (tCons (tC (.int 2)) tNil)))) tNil)) tNil))))
  (sDPut (tVar 6) (tC (.str "pace")) (tCall sp_law_pick [] E0 (tCons (tVar 0) (tCons (tLst (tCons (tC .non) (tCons (tC (.int 0)) (tCons (tC (.int 1)) (tCons (tC (.int 2)) (tCons (tC (.int 3)) (tCons (tC (.int 4)) (tCons (tC (.int 5)) (tCons (tC (.int 6)) tNil))))))))) tNil))))) tNext)
  (tSeq (tIfS (tAnd (tTest (tOp (rIn K false) (tVar 5) (tTup (tCons (tC (.str "counts")) (tCons (tC (.str "marks")) tNil))))) (tTest (tOp (rEqD K) (tDGet (tVar 6) (tC (.str "need"))) (tC (.str "finish"))))) (sDPut (tVar 6) (tC (.str "slide")) (tOp (rEqD K) (tCall sp_law_draw [] E0 (tCons (tVar 0) (tCons (tC (.int 2)) tNil))) (tC (.int 0)))) tNext)
  (tSeq (tIfS (tTest (tOp (rEqD K) (tVar 5) (tC (.str "young")))) (tDrop (tBM K "dict" rDUpd (tVar 6) (tCons (tDisp [((tC (.str "collector")), (tTup (tCons (tVar 5) (tCons (tOp rAddI (tC (.int 1)) (tCall sp_law_draw [] E0 (tCons (tVar 0) (tCons (tOp rSubI (tDGet (tVar 6) (tC (.str "cells"))) (tC (.int 1))) tNil)))) (tCons (tCall sp_law_pick [] E0 (tCons (tVar 0) (tCons (tLst (tCons (tC (.str "all")) (tCons (tC (.str "first")) (tCons (tC (.str "none")) tNil)))) tNil))) tNil))))), ((tC (.str "rooms")), (tCall sp_law_pick [] E0 (tCons (tVar 0) (tCons (tLst (tCons (tC (.str "first")) (tCons (tC (.str "last")) (tCons (tC (.str "best")) (tCons (tC (.str "worst")) tNil))))) tNil))))]) tNil))) tNext)
  (tRet (tVar 6))))))))))))))
def t_law_whole_house (K : PySem.W.Frag) (A : Ads) (E : XK) (sp_House___init__ : Sp) : TS := (tSeq (tAsg (tLc (iSeq K (tTup (tCons (tC (.str "rooms")) (tCons (tC (.str "collector")) (tCons (tC (.str "pace")) (tCons (tC (.str "need")) (tCons (tC (.str "slide")) (tCons (tC (.str "asked")) tNil)))))))) (gName 2) tYes (tDGet (tVar 0) (tVar 2)) [2]) (gName 1))
  (tRet (tMake A.cHouse sp_House___init__ [] E0 (tCons (tDGet (tVar 0) (tC (.str "cells"))) (tCons (tDGet (tVar 0) (tC (.str "kinds"))) (tCons (tDGet (tVar 0) (tC (.str "registers"))) (tCons (tDGet (tVar 0) (tC (.str "live"))) (tCons (tOp (rIx K) (tVar 1) (tC (.int 0))) (tCons (tOp (rIx K) (tVar 1) (tC (.int 1))) (tCons (tOp (rIx K) (tVar 1) (tC (.int 2))) (tCons (tOp (rIx K) (tVar 1) (tC (.int 3))) (tCons (tOp (rIx K) (tVar 1) (tC (.int 4))) (tCons (tOp (rIx K) (tVar 1) (tC (.int 5))) tNil)))))))))))))
def t_law_house_lines (K : PySem.W.Frag) (A : Ads) (E : XK) : TS := (tSeq (tAsg (tLst (tCons (tLst (tCons (tC (.str "cells")) (tCons (tCB rStrI (tCons (tDGet (tVar 0) (tC (.str "cells"))) tNil)) tNil))) tNil)) (gName 1))
  (tSeq (tFor (iSeq K (tDGet (tVar 0) (tC (.str "kinds")))) (gTup K 2 (gCons (gName 2) (gCons (gName 3) gNil))) (tDrop (tBM K "list" rAppend (tVar 1) (tCons (tOp rCat (tLst (tCons (tC (.str "kind")) (tCons (tCB rStrI (tCons (tVar 2) tNil)) tNil))) (tCB rSumL (tCons (tLc (iSeq K (tVar 3)) (gName 7) tYes (tOp rCat (tLst (tCons (tC (.str ":")) tNil)) (tLc (iSeq K (tVar 7)) (gName 6) tYes (tCB rStrI (tCons (tVar 6) tNil)) [6])) [7]) (tCons (tLst tNil) tNil)))) tNil))))
  (tSeq (tAsg (tOp rCat (tVar 1) (tLst (tCons (tLst (tCons (tC (.str "registers")) (tCons (tCB rStrI (tCons (tDGet (tVar 0) (tC (.str "registers"))) tNil)) tNil))) (tCons (tLst (tCons (tC (.str "live")) (tCons (tCB rStrI (tCons (tDGet (tVar 0) (tC (.str "live"))) tNil)) tNil))) (tCons (tLst (tCons (tC (.str "rooms")) (tCons (tDGet (tVar 0) (tC (.str "rooms"))) tNil))) tNil))))) (gName 1))
  (tSeq (tPar 4 5 (tCons (tOp (rIx K) (tDGet (tVar 0) (tC (.str "collector"))) (tC (.int 0))) (tCons (tCB (rListOf K) (tCons (tSl (rSlX K) (tDGet (tVar 0) (tC (.str "collector"))) (tPart (tC (.int 1))) tNoPart) tNil)) tNil)))
  (tSeq (tIfS (tTest (tOp (rEqD K) (tVar 4) (tC (.str "marks")))) (tAsg (tCB (rListOf K) (tCons (tOp (rIx K) (tVar 5) (tC (.int 0))) tNil)) (gName 5)) tNext)
  (tSeq (tDrop (tBM K "list" rAppend (tVar 1) (tCons (tOp rCat (tLst (tCons (tC (.str "collector")) (tCons (tVar 4) tNil))) (tLc (iSeq K (tVar 5)) (gName 8) tYes (tIf (tTest (tOp rIsN (tVar 8) (tC .non))) (tC (.str "-")) (tCB rStrIS (tCons (tVar 8) tNil))) [8])) tNil)))
  (tSeq (tAsg (tOp rCat (tVar 1) (tLst (tCons (tLst (tCons (tC (.str "pace")) (tCons (tIf (tTest (tOp rIsN (tDGet (tVar 0) (tC (.str "pace"))) (tC .non))) (tC (.str "free")) (tCB rStrI (tCons (tDGet (tVar 0) (tC (.str "pace"))) tNil))) tNil))) (tCons (tLst (tCons (tC (.str "need")) (tCons (tDGet (tVar 0) (tC (.str "need"))) tNil))) (tCons (tLst (tCons (tC (.str "slide")) (tCons (tIf (tB (tDGet (tVar 0) (tC (.str "slide")))) (tC (.str "yes")) (tC (.str "no"))) tNil))) tNil))))) (gName 1))
  (tRet (tOp rCat (tVar 1) (tLst (tCons (tOp rCat (tLst (tCons (tC (.str "asked")) tNil)) (tCB (rListOf K) (tCons (tDGet (tVar 0) (tC (.str "asked"))) tNil))) tNil)))))))))))
end Nv
set_option Elab.async false
set_option linter.all false
set_option maxRecDepth 100000
set_option maxHeartbeats 4000000
namespace Nv
open PySem PySem.Spec PyProof.Rows L2 StX NvZ
def t_is_integer (K : PySem.W.Frag) (A : Ads) (E : XK) : TS := (tRet (tAndV (tCB (rIsi K) (tCons (tVar 0) (tCons (tC (.ty "int")) tNil))) (tNotV (tCB (rIsi K) (tCons (tVar 0) (tCons (tC (.ty "bool")) tNil))))))
def t_is_within (K : PySem.W.Frag) (A : Ads) (E : XK) (sp_is_integer : Sp) : TS := (tRet (tAndV (tCall sp_is_integer [] E0 (tCons (tVar 0) tNil)) (tChain rLeI rLeI (tVar 1) (tVar 0) (tVar 2))))
def t_is_listed (K : PySem.W.Frag) (A : Ads) (E : XK) : TS := (tRet (tCB (rIsiT K) (tCons (tVar 0) (tCons (tTup (tCons (tC (.ty "list")) (tCons (tC (.ty "tuple")) tNil))) tNil))))
def t_is_lot (K : PySem.W.Frag) (A : Ads) (E : XK) (sp_is_listed : Sp) (sp_is_within : Sp) : TS := (tSeq (tIfS (tOr (tNot (tB (tCall sp_is_listed [] E0 (tCons (tVar 0) tNil)))) (tNot (tB (tCB (rAll K) (tCons (tLc (iSeq K (tVar 0)) (gName 3) tYes (tCall sp_is_within [] E0 (tCons (tVar 3) (tCons (tVar 1) (tCons (tVar 2) tNil)))) [3]) tNil))))) (tRet (tC (.bl false))) tNext)
  (tRet (tCB (rAll K) (tCons (tLc (iZipS K (tCons (tVar 0) (tCons (tSl (rSlX K) (tVar 0) (tPart (tC (.int 1))) tNoPart) tNil))) (gTup K 2 (gCons (gName 4) (gCons (gName 5) gNil))) tYes (tOp rLtI (tVar 4) (tVar 5)) [4, 5]) tNil))))
def t_is_word (K : PySem.W.Frag) (A : Ads) (E : XK) : TS := (tRet (tAndV (tCB (rIsi K) (tCons (tVar 0) (tCons (tC (.ty "str")) tNil))) (tOp (rIn K false) (tVar 0) (tVar 1))))
def t_is_word_lot (K : PySem.W.Frag) (A : Ads) (E : XK) (sp_is_listed : Sp) (sp_is_word : Sp) : TS := (tSeq (tIfS (tOr (tNot (tB (tCall sp_is_listed [] E0 (tCons (tVar 0) tNil)))) (tNot (tB (tCB (rAll K) (tCons (tLc (iSeq K (tVar 0)) (gName 2) tYes (tCall sp_is_word [] E0 (tCons (tVar 2) (tCons (tVar 1) tNil))) [2]) tNil))))) (tRet (tC (.bl false))) tNext)
  (tRet (tCB (rAll K) (tCons (tLc (iZipS K (tCons (tVar 0) (tCons (tSl (rSlX K) (tVar 0) (tPart (tC (.int 1))) tNoPart) tNil))) (gTup K 2 (gCons (gName 3) (gCons (gName 4) gNil))) tYes (tOp rLtS (tVar 3) (tVar 4)) [3, 4]) tNil))))
def t_is_plain_tuple (K : PySem.W.Frag) (A : Ads) (E : XK) (sp_is_listed : Sp) : TS := (tRet (tAndV (tCall sp_is_listed [] E0 (tCons (tVar 0) tNil)) (tOp (rEqD K) (tCB (rLenV K) (tCons (tVar 0) tNil)) (tVar 1))))
def t_fixed (K : PySem.W.Frag) (A : Ads) (E : XK) (sp_fixed : Sp) : TS := (tSeq (tIfS (tB (tCB (rIsiT K) (tCons (tVar 0) (tCons (tTup (tCons (tC (.ty "list")) (tCons (tC (.ty "tuple")) tNil))) tNil)))) (tRet (tCB (rTupOf K) (tCons (tLc (iSeq K (tVar 0)) (gName 1) tYes (tCall sp_fixed [] E0 (tCons (tVar 1) tNil)) [1]) tNil))) tNext)
  (tRet (tVar 0)))
def t_are_kinds (K : PySem.W.Frag) (A : Ads) (E : XK) (sp_is_listed : Sp) (sp_is_kind : Sp) : TS := (tSeq (tIfS (tOr (tNot (tB (tCall sp_is_listed [] E0 (tCons (tVar 0) tNil)))) (tNot (tTest (tChain rLeI rLeI (tC (.int 1)) (tCB (rLenV K) (tCons (tVar 0) tNil)) (tC (.int 3)))))) (tRet (tC (.bl false))) tNext)
  (tRet (tCB (rAll K) (tCons (tLc (iSeq K (tVar 0)) (gName 1) tYes (tCall sp_is_kind [] E0 (tCons (tVar 1) (tCons (tCB (rLenV K) (tCons (tVar 0) tNil)) tNil))) [1]) tNil))))
def t_is_kind (K : PySem.W.Frag) (A : Ads) (E : XK) (sp_is_plain_tuple : Sp) (sp_is_within : Sp) (sp_is_listed : Sp) (sp_is_lot : Sp) : TS := (tSeq (tIfS (tOr (tNot (tB (tCall sp_is_plain_tuple [] E0 (tCons (tVar 0) (tCons (tC (.int 2)) tNil))))) (tOr (tNot (tB (tCall sp_is_within [] E0 (tCons (tOp (rIx K) (tVar 0) (tC (.int 0))) (tCons (tC (.int 1)) (tCons (tC (.int 3)) tNil)))))) (tNot (tB (tCall sp_is_listed [] E0 (tCons (tOp (rIx K) (tVar 0) (tC (.int 1))) tNil)))))) (tRet (tC (.bl false))) tNext)
  (tRet (tAndV (tOp rLeI (tCB (rLenV K) (tCons (tOp (rIx K) (tVar 0) (tC (.int 1))) tNil)) (tCB rMin2 (tCons (tOp (rIx K) (tVar 0) (tC (.int 0))) (tCons (tC (.int 2)) tNil)))) (tCB (rAll K) (tCons (tLc (iSeq K (tOp (rIx K) (tVar 0) (tC (.int 1)))) (gName 2) tYes (tCall sp_is_lot [] E0 (tCons (tVar 2) (tCons (tC (.int 0)) (tCons (tOp rSubI (tVar 1) (tC (.int 1))) tNil)))) [2]) tNil)))))
def t_is_collector (K : PySem.W.Frag) (A : Ads) (E : XK) (sp_is_listed : Sp) (sp_is_word_lot : Sp) (sp_is_within : Sp) (sp_is_word : Sp) : TS := (tSeq (tIfS (tOr (tNot (tB (tCall sp_is_listed [] E0 (tCons (tVar 0) tNil)))) (tOr (tTest (tOp (rEqD K) (tCB (rLenV K) (tCons (tVar 0) tNil)) (tC (.int 0)))) (tNot (tB (tCB (rIsi K) (tCons (tOp (rIx K) (tVar 0) (tC (.int 0))) (tCons (tC (.ty "str")) tNil))))))) (tRet (tC (.bl false))) tNext)
  (tSeq (tPar 1 2 (tCons (tOp (rIx K) (tVar 0) (tC (.int 0))) (tCons (tCB (rListOf K) (tCons (tSl (rSlX K) (tVar 0) (tPart (tC (.int 1))) tNoPart) tNil)) tNil)))
  (tSeq (tIfS (tTest (tOp (rIn K false) (tVar 1) (tTup (tCons (tC (.str "none")) (tCons (tC (.str "halves")) tNil))))) (tRet (tOp (rEqD K) (tVar 2) (tLst tNil))) tNext)
  (tSeq (tIfS (tTest (tOp (rEqD K) (tVar 1) (tC (.str "marks")))) (tRet (tAndV (tOp (rEqD K) (tCB (rLenV K) (tCons (tVar 2) tNil)) (tC (.int 1))) (tCall sp_is_word_lot [] E0 (tCons (tOp (rIx K) (tVar 2) (tC (.int 0))) (tCons (tC (.ref A.tGUARDS)) tNil))))) tNext)
  (tSeq (tIfS (tTest (tOp (rEqD K) (tVar 1) (tC (.str "counts")))) (tRet (tAndV (tOp (rEqD K) (tCB (rLenV K) (tCons (tVar 2) tNil)) (tC (.int 2))) (tAndV (tOrV (tOp rIsN (tOp (rIx K) (tVar 2) (tC (.int 0))) (tC .non)) (tCall sp_is_within [] E0 (tCons (tOp (rIx K) (tVar 2) (tC (.int 0))) (tCons (tC (.int 1)) (tCons (tC (.int 3)) tNil))))) (tCall sp_is_word [] E0 (tCons (tOp (rIx K) (tVar 2) (tC (.int 1))) (tCons (tC (.ref A.tORDERS)) tNil)))))) tNext)
  (tRet (tAndV (tOp (rEqD K) (tVar 1) (tC (.str "young"))) (tAndV (tOp (rEqD K) (tCB (rLenV K) (tCons (tVar 2) tNil)) (tC (.int 2))) (tAndV (tCall sp_is_within [] E0 (tCons (tOp (rIx K) (tVar 2) (tC (.int 0))) (tCons (tC (.int 1)) (tCons (tOp rSubI (tC (.int 12)) (tC (.int 1))) tNil)))) (tCall sp_is_word [] E0 (tCons (tOp (rIx K) (tVar 2) (tC (.int 1))) (tCons (tC (.ref A.tREMEMBERS)) tNil))))))))))))
def t_need_parts (K : PySem.W.Frag) (A : Ads) (E : XK) : TS := (tFor (iSeq K (tVar 0)) (gTup K 2 (gCons (gName 1) (gCons (gName 2) gNil))) (tIfS (tNot (tB (tVar 2))) (tRaiseX A.cBadHouse ["part"] (fun c d _ H => E c d H) (tCons (tVar 1) tNil)) tNext))
def t_misfit_of (K : PySem.W.Frag) (A : Ads) (E : XK) : TS := (tSeq (tAsg (tFld K (tVar 0) "word") (gName 1))
  (tSeq (tIfS (tOr (tAnd (tTest (tOp (rEqD K) (tVar 1) (tC (.str "halves")))) (tTest (tOp (rNeD K) (tFld K (tVar 0) "rooms") (tC (.str "first"))))) (tAnd (tTest (tOp (rEqD K) (tVar 1) (tC (.str "young")))) (tTest (tOp (rIn K true) (tFld K (tVar 0) "rooms") (tSl (rSlX K) (tC (.ref A.tROOMS)) tNoPart (tPart (tC (.int 4)))))))) (tRet (tC (.str "rooms"))) tNext)
  (tSeq (tIfS (tAnd (tTest (tOp (rNeD K) (tFld K (tVar 0) "pace") (tC (.int 0)))) (tTest (tOp (rNeD K) (tVar 1) (tC (.str "marks"))))) (tRet (tC (.str "pace"))) tNext)
  (tSeq (tIfS (tAnd (tTest (tOp (rNeD K) (tFld K (tVar 0) "need") (tC (.str "finish")))) (tTest (tOp (rIn K false) (tVar 1) (tTup (tCons (tC (.str "halves")) (tCons (tC (.str "young")) tNil)))))) (tRet (tC (.str "need"))) tNext)
  (tSeq (tIfS (tAnd (tB (tFld K (tVar 0) "slide")) (tOr (tTest (tOp (rIn K true) (tVar 1) (tTup (tCons (tC (.str "counts")) (tCons (tC (.str "marks")) tNil))))) (tTest (tOp (rNeD K) (tFld K (tVar 0) "need") (tC (.str "finish")))))) (tRet (tC (.str "slide"))) tNext)
  (tSeq (tIfS (tOr (tAnd (tTest (tOp (rEqD K) (tVar 1) (tC (.str "halves")))) (tTest (tOp rLtI (tFld K (tVar 0) "cells") (tC (.int 2))))) (tAnd (tTest (tOp (rEqD K) (tVar 1) (tC (.str "young")))) (tTest (tOp rGeI (tOp (rIx K) (tFld K (tVar 0) "collector") (tC (.int 1))) (tFld K (tVar 0) "cells"))))) (tRet (tC (.str "collector"))) tNext)
  (tRet (tC .non))))))))
def t_House___init__ (K : PySem.W.Frag) (A : Ads) (E : XK) (sp_are_kinds : Sp) (sp_is_within : Sp) (sp_is_collector : Sp) (sp_is_word : Sp) (sp_is_word_lot : Sp) (sp_need_parts : Sp) (sp_fixed : Sp) (sp_misfit_of : Sp) : TS := (tSeq (tAsg (tLst (tCons (tTup (tCons (tC (.str "cells")) (tCons (tCall sp_is_within [] E0 (tCons (tVar 1) (tCons (tC (.int 1)) (tCons (tC (.int 12)) tNil)))) tNil))) (tCons (tTup (tCons (tC (.str "kinds")) (tCons (tCall sp_are_kinds [] E0 (tCons (tVar 2) tNil)) tNil))) tNil))) (gName 11))
  (tSeq (tDrop (tBM K "list" rExtend (tVar 11) (tCons (tLst (tCons (tTup (tCons (tC (.str "registers")) (tCons (tCall sp_is_within [] E0 (tCons (tVar 3) (tCons (tC (.int 1)) (tCons (tC (.int 4)) tNil)))) tNil))) (tCons (tTup (tCons (tC (.str "live")) (tCons (tCall sp_is_within [] E0 (tCons (tVar 4) (tCons (tC (.int 1)) (tCons (tC (.int 12)) tNil)))) tNil))) tNil))) tNil)))
  (tSeq (tDrop (tBM K "list" rExtend (tVar 11) (tCons (tLst (tCons (tTup (tCons (tC (.str "rooms")) (tCons (tCall sp_is_word [] E0 (tCons (tVar 5) (tCons (tC (.ref A.tROOMS)) tNil))) tNil))) (tCons (tTup (tCons (tC (.str "collector")) (tCons (tCall sp_is_collector [] E0 (tCons (tVar 6) tNil)) tNil))) tNil))) tNil)))
  (tSeq (tDrop (tBM K "list" rAppend (tVar 11) (tCons (tTup (tCons (tC (.str "pace")) (tCons (tOrV (tOp rIsN (tVar 7) (tC .non)) (tCall sp_is_within [] E0 (tCons (tVar 7) (tCons (tC (.int 0)) (tCons (tC (.int 6)) tNil))))) tNil))) tNil)))
  (tSeq (tDrop (tBM K "list" rExtend (tVar 11) (tCons (tLst (tCons (tTup (tCons (tC (.str "need")) (tCons (tCall sp_is_word [] E0 (tCons (tVar 8) (tCons (tC (.ref A.tNEEDS)) tNil))) tNil))) (tCons (tTup (tCons (tC (.str "slide")) (tCons (tCB (rIsi K) (tCons (tVar 9) (tCons (tC (.ty "bool")) tNil))) tNil))) tNil))) tNil)))
  (tSeq (tDrop (tBM K "list" rAppend (tVar 11) (tCons (tTup (tCons (tC (.str "asked")) (tCons (tAndV (tCall sp_is_word_lot [] E0 (tCons (tVar 10) (tCons (tC (.ref A.tBREAKS)) tNil))) (tOp (rIn K false) (tC (.str "swept")) (tVar 10))) tNil))) tNil)))
  (tSeq (tDrop (tCall sp_need_parts [] E (tCons (tVar 11) tNil)))
  (tSeq (sFld K (tVar 0) (tVar 1) "cells")
  (tSeq (sFld K (tVar 0) (tCall sp_fixed [] E0 (tCons (tVar 2) tNil)) "kinds")
  (tSeq (sFld K (tVar 0) (tVar 3) "registers")
  (tSeq (sFld K (tVar 0) (tVar 4) "live")
  (tSeq (sFld K (tVar 0) (tVar 5) "rooms")
  (tSeq (sFld K (tVar 0) (tCall sp_fixed [] E0 (tCons (tVar 6) tNil)) "collector")
  (tSeq (sFld K (tVar 0) (tOp (rIx K) (tFld K (tVar 0) "collector") (tC (.int 0))) "word")
  (tSeq (sFld K (tVar 0) (tVar 7) "pace")
  (tSeq (sFld K (tVar 0) (tVar 8) "need")
  (tSeq (sFld K (tVar 0) (tVar 9) "slide")
  (tSeq (sFld K (tVar 0) (tCall sp_fixed [] E0 (tCons (tVar 10) tNil)) "asked")
  (tSeq (tAsg (tCall sp_misfit_of [] E0 (tCons (tVar 0) tNil)) (gName 12))
  (tIfS (tTest (tOp rNotN (tVar 12) (tC .non))) (tRaiseX A.cMisfit ["part"] (fun c d _ H => E c d H) (tCons (tVar 12) tNil)) tNext))))))))))))))))))))
def t_House___eq__ (K : PySem.W.Frag) (A : Ads) (E : XK) (sp_House_row : Sp) : TS := (tSeq (tIfS (tNot (tB (tCB (rIsi K) (tCons (tVar 1) (tCons (tC (.ref A.cHouse)) tNil))))) (tRet (tC (.bl false))) tNext)
  (tRet (tOp (rEqD K) (tMeth A.cHouse "row" sp_House_row [] E0 (tVar 0) tNil) (tMeth A.cHouse "row" sp_House_row [] E0 (tVar 1) tNil))))
def t_House_row (K : PySem.W.Frag) (A : Ads) (E : XK) : TS := (tSeq (tAsg (tTup (tCons (tFld K (tVar 0) "cells") (tCons (tFld K (tVar 0) "kinds") (tCons (tFld K (tVar 0) "registers") (tCons (tFld K (tVar 0) "live") (tCons (tFld K (tVar 0) "rooms") (tCons (tFld K (tVar 0) "collector") tNil))))))) (gName 1))
  (tRet (tTup (tStar K (tVar 1) (tCons (tFld K (tVar 0) "pace") (tCons (tFld K (tVar 0) "need") (tCons (tFld K (tVar 0) "slide") (tCons (tFld K (tVar 0) "asked") tNil))))))))
def t_need_house (K : PySem.W.Frag) (A : Ads) (E : XK) : TS := (tIfS (tNot (tB (tCB (rIsi K) (tCons (tVar 0) (tCons (tC (.ref A.cHouse)) tNil))))) (tRaiseX A.cBadHouse ["part"] (fun c d _ H => E c d H) (tCons (tVar 1) tNil)) tNext)
end Nv
set_option Elab.async false
set_option linter.all false
set_option maxRecDepth 100000
set_option maxHeartbeats 4000000
namespace Nv
open PySem PySem.Spec PyProof.Rows L2 StX NvZ
def t_is_figure (K : PySem.W.Frag) (A : Ads) (E : XK) : TS := (tSeq (tIfS (tOr (tTest (tOp rIsN (tVar 0) (tC .non))) (tOr (tNot (tTest (tChain rLeI rLeI (tC (.int 1)) (tCB (rLenV K) (tCons (tVar 0) tNil)) (tC (.int 9))))) (tNot (tB (tCB (rAll K) (tCons (tLc (iSeq K (tVar 0)) (gName 3) tYes (tOp rInSign (tVar 3) (tC (.str "0123456789"))) [3]) tNil)))))) (tRet (tC (.bl false))) tNext)
  (tRet (tAndV (tOrV (tOp (rEqD K) (tVar 0) (tC (.str "0"))) (tOp (rNeD K) (tOp (rIx K) (tVar 0) (tC (.int 0))) (tC (.str "0")))) (tChain rLeI rLeI (tVar 1) (tCB rIntS (tCons (tVar 0) tNil)) (tVar 2)))))
def t_Scan___init__ (K : PySem.W.Frag) (A : Ads) (E : XK) : TS := (tSeq (sFld K (tVar 0) (tVar 1) "lines")
  (tSeq (sFld K (tVar 0) (tC (.int 0)) "line")
  (sFld K (tVar 0) (tC (.int 0)) "at")))
def t_Scan_is_over (K : PySem.W.Frag) (A : Ads) (E : XK) : TS := (tRet (tOp (rEqD K) (tFld K (tVar 0) "line") (tCB (rLenV K) (tCons (tFld K (tVar 0) "lines") tNil))))
def t_Scan_ahead (K : PySem.W.Frag) (A : Ads) (E : XK) (sp_Scan_is_over : Sp) : TS := (tSeq (tIfS (tOr (tB (tMeth A.cScan "is_over" sp_Scan_is_over [] E0 (tVar 0) tNil)) (tTest (tOp (rEqD K) (tFld K (tVar 0) "at") (tCB (rLenV K) (tCons (tOp (rIx K) (tFld K (tVar 0) "lines") (tFld K (tVar 0) "line")) tNil))))) (tRet (tC .non)) tNext)
  (tRet (tOp (rIx K) (tOp (rIx K) (tFld K (tVar 0) "lines") (tFld K (tVar 0) "line")) (tFld K (tVar 0) "at"))))
def t_Scan_stop (K : PySem.W.Frag) (A : Ads) (E : XK) : TS := (tRaiseX A.cBadText ["line", "word"] (fun c d _ H => E c d H) (tCons (tFld K (tVar 0) "line") (tCons (tFld K (tVar 0) "at") tNil)))
def t_Scan_take_of (K : PySem.W.Frag) (A : Ads) (E : XK) (sp_Scan_ahead : Sp) (sp_Scan_stop : Sp) : TS := (tSeq (tAsg (tMeth A.cScan "ahead" sp_Scan_ahead [] E0 (tVar 0) tNil) (gName 2))
  (tSeq (tIfS (tOr (tTest (tOp rIsN (tVar 2) (tC .non))) (tTest (tOp (rIn K true) (tVar 2) (tVar 1)))) (tDrop (tMeth A.cScan "stop" sp_Scan_stop [] E (tVar 0) tNil)) tNext)
  (tSeq (sFldAug K (tVar 0) (tC (.int 1)) rAdd "at")
  (tRet (tVar 2)))))
def t_Scan_take_number (K : PySem.W.Frag) (A : Ads) (E : XK) (sp_Scan_ahead : Sp) (sp_is_figure : Sp) (sp_Scan_stop : Sp) : TS := (tSeq (tAsg (tMeth A.cScan "ahead" sp_Scan_ahead [] E0 (tVar 0) tNil) (gName 3))
  (tSeq (tIfS (tNot (tB (tCall sp_is_figure [] E0 (tCons (tVar 3) (tCons (tVar 1) (tCons (tVar 2) tNil)))))) (tDrop (tMeth A.cScan "stop" sp_Scan_stop [] E (tVar 0) tNil)) tNext)
  (tSeq (sFldAug K (tVar 0) (tC (.int 1)) rAdd "at")
  (tRet (tCB rIntS (tCons (tVar 3) tNil))))))
def t_Scan_end_line (K : PySem.W.Frag) (A : Ads) (E : XK) (sp_Scan_ahead : Sp) (sp_Scan_is_over : Sp) (sp_Scan_stop : Sp) : TS := (tSeq (tIfS (tOr (tTest (tOp rNotN (tMeth A.cScan "ahead" sp_Scan_ahead [] E0 (tVar 0) tNil) (tC .non))) (tB (tMeth A.cScan "is_over" sp_Scan_is_over [] E0 (tVar 0) tNil))) (tDrop (tMeth A.cScan "stop" sp_Scan_stop [] E (tVar 0) tNil)) tNext)
  (tSeq (sFldAug K (tVar 0) (tC (.int 1)) rAdd "line")
  (sFld K (tVar 0) (tC (.int 0)) "at")))
def t_Scan_finish (K : PySem.W.Frag) (A : Ads) (E : XK) (sp_Scan_is_over : Sp) (sp_Scan_stop : Sp) : TS := (tIfS (tNot (tB (tMeth A.cScan "is_over" sp_Scan_is_over [] E0 (tVar 0) tNil))) (tDrop (tMeth A.cScan "stop" sp_Scan_stop [] E (tVar 0) tNil)) tNext)
def t_scan_of (K : PySem.W.Frag) (A : Ads) (E : XK) (sp_Scan___init__ : Sp) : TS := (tSeq (tIfS (tNot (tB (tCB (rIsi K) (tCons (tVar 0) (tCons (tC (.ty "str")) tNil))))) (tRaiseX A.cBadText ["line", "word"] (fun c d _ H => E c d H) (tCons (tC (.int 0)) (tCons (tC (.int 0)) tNil))) tNext)
  (tRet (tMake A.cScan sp_Scan___init__ [] E0 (tCons (tLc (iSeq K (tM1 rSplit (tVar 0) (tC (.str "\n")))) (gName 1) tYes (tM1 rSplit (tVar 1) (tC (.str " "))) [1]) tNil))))
def t_kind_words (K : PySem.W.Frag) (A : Ads) (E : XK) : TS := (tSeq (tAsg (tLst (tCons (tC (.str "kind")) (tCons (tCB rStrI (tCons (tOp (rIx K) (tVar 0) (tC (.int 0))) tNil)) tNil))) (gName 1))
  (tSeq (tFor (iSeq K (tOp (rIx K) (tVar 0) (tC (.int 1)))) (gName 2) (tDrop (tBM K "list" rExtend (tVar 1) (tCons (tLst (tCons (tC (.str ":")) (tStar K (tLc (iSeq K (tVar 2)) (gName 3) tYes (tCB rStrI (tCons (tVar 3) tNil)) [3]) tNil))) tNil))))
  (tRet (tVar 1))))
def t_collector_words (K : PySem.W.Frag) (A : Ads) (E : XK) : TS := (tSeq (tAsg (tOp (rIx K) (tVar 0) (tC (.int 0))) (gName 1))
  (tSeq (tIfS (tTest (tOp (rEqD K) (tVar 1) (tC (.str "marks")))) (tRet (tLst (tCons (tC (.str "collector")) (tCons (tVar 1) (tStar K (tOp (rIx K) (tVar 0) (tC (.int 1))) tNil))))) tNext)
  (tSeq (tAsg (tLc (iSeq K (tSl (rSlX K) (tVar 0) (tPart (tC (.int 1))) tNoPart)) (gName 3) tYes (tIf (tTest (tOp rIsN (tVar 3) (tC .non))) (tC (.str "-")) (tCB rStrIS (tCons (tVar 3) tNil))) [3]) (gName 2))
  (tRet (tLst (tCons (tC (.str "collector")) (tCons (tVar 1) (tStar K (tVar 2) tNil))))))))
def t_house_rows (K : PySem.W.Frag) (A : Ads) (E : XK) (sp_kind_words : Sp) (sp_collector_words : Sp) : TS := (tSeq (tAsg (tLst (tCons (tLst (tCons (tC (.str "cells")) (tCons (tCB rStrI (tCons (tFld K (tVar 0) "cells") tNil)) tNil))) (tStar K (tLc (iSeq K (tFld K (tVar 0) "kinds")) (gName 2) tYes (tCall sp_kind_words [] E0 (tCons (tVar 2) tNil)) [2]) tNil))) (gName 1))
  (tSeq (tDrop (tBM K "list" rExtend (tVar 1) (tCons (tLst (tCons (tLst (tCons (tC (.str "registers")) (tCons (tCB rStrI (tCons (tFld K (tVar 0) "registers") tNil)) tNil))) (tCons (tLst (tCons (tC (.str "live")) (tCons (tCB rStrI (tCons (tFld K (tVar 0) "live") tNil)) tNil))) (tCons (tLst (tCons (tC (.str "rooms")) (tCons (tFld K (tVar 0) "rooms") tNil))) tNil)))) tNil)))
  (tSeq (tDrop (tBM K "list" rExtend (tVar 1) (tCons (tLst (tCons (tCall sp_collector_words [] E0 (tCons (tFld K (tVar 0) "collector") tNil)) (tCons (tLst (tCons (tC (.str "pace")) (tCons (tIf (tTest (tOp rIsN (tFld K (tVar 0) "pace") (tC .non))) (tC (.str "free")) (tCB rStrI (tCons (tFld K (tVar 0) "pace") tNil))) tNil))) tNil))) tNil)))
  (tSeq (tDrop (tBM K "list" rExtend (tVar 1) (tCons (tLst (tCons (tLst (tCons (tC (.str "need")) (tCons (tFld K (tVar 0) "need") tNil))) (tCons (tLst (tCons (tC (.str "slide")) (tCons (tOp (rIx K) (tC (.ref A.tTRUTHS)) (tCB rIntI (tCons (tFld K (tVar 0) "slide") tNil))) tNil))) (tCons (tLst (tCons (tC (.str "asked")) (tStar K (tFld K (tVar 0) "asked") tNil))) tNil)))) tNil)))
  (tRet (tVar 1))))))
def t_house_text (K : PySem.W.Frag) (A : Ads) (E : XK) (sp_need_house : Sp) (sp_house_rows : Sp) : TS := (tSeq (tDrop (tCall sp_need_house [.str "house"] E (tCons (tVar 0) tNil)))
  (tRet (tM1 (rJoin K) (tC (.str "\n")) (tLc (iSeq K (tCall sp_house_rows [] E0 (tCons (tVar 0) tNil))) (gName 1) tYes (tM1 (rJoin K) (tC (.str " ")) (tVar 1)) [1]))))
def t_taken_after (K : PySem.W.Frag) (A : Ads) (E : XK) (sp_Scan_take_of : Sp) (sp_Scan_take_number : Sp) (sp_Scan_end_line : Sp) : TS := (tSeq (tDrop (tMeth A.cScan "take_of" sp_Scan_take_of [] E (tVar 0) (tCons (tTup (tCons (tVar 1) tNil)) tNil)))
  (tSeq (tAsg (tMeth A.cScan "take_number" sp_Scan_take_number [] E (tVar 0) (tCons (tVar 2) (tCons (tVar 3) tNil))) (gName 4))
  (tSeq (tDrop (tMeth A.cScan "end_line" sp_Scan_end_line [] E (tVar 0) tNil))
  (tRet (tVar 4)))))
def t_taken_word (K : PySem.W.Frag) (A : Ads) (E : XK) (sp_Scan_take_of : Sp) (sp_Scan_end_line : Sp) : TS := (tSeq (tDrop (tMeth A.cScan "take_of" sp_Scan_take_of [] E (tVar 0) (tCons (tTup (tCons (tVar 1) tNil)) tNil)))
  (tSeq (tAsg (tMeth A.cScan "take_of" sp_Scan_take_of [] E (tVar 0) (tCons (tVar 2) tNil)) (gName 3))
  (tSeq (tDrop (tMeth A.cScan "end_line" sp_Scan_end_line [] E (tVar 0) tNil))
  (tRet (tVar 3)))))
def t_taken_lot (K : PySem.W.Frag) (A : Ads) (E : XK) (sp_Scan_ahead : Sp) (sp_Scan_take_of : Sp) : TS := (tSeq (tAsg (tLst tNil) (gName 2))
  (tSeq (tWhile (tTest (tOp rNotN (tMeth A.cScan "ahead" sp_Scan_ahead [] E0 (tVar 0) tNil) (tC .non))) (tDrop (tBM K "list" rAppend (tVar 2) (tCons (tMeth A.cScan "take_of" sp_Scan_take_of [] E (tVar 0) (tCons (tLc (iSeq K (tVar 1)) (gName 3) (tOr (tTest (tOp (rEqD K) (tVar 2) (tLst tNil))) (tTest (tOp rGtS (tVar 3) (tOp (rIx K) (tVar 2) (tUn rNeg (tC (.int 1))))))) (tVar 3) [3]) tNil)) tNil))))
  (tRet (tVar 2))))
def t_taken_link (K : PySem.W.Frag) (A : Ads) (E : XK) (sp_is_figure : Sp) (sp_Scan_ahead : Sp) (sp_Scan_take_number : Sp) : TS := (tSeq (tAsg (tLst tNil) (gName 2))
  (tSeq (tWhile (tB (tCall sp_is_figure [] E0 (tCons (tMeth A.cScan "ahead" sp_Scan_ahead [] E0 (tVar 0) tNil) (tCons (tC (.int 0)) (tCons (tOp rSubI (tVar 1) (tC (.int 1))) tNil))))) (tDrop (tBM K "list" rAppend (tVar 2) (tCons (tMeth A.cScan "take_number" sp_Scan_take_number [] E (tVar 0) (tCons (tIf (tTest (tOp (rNeD K) (tVar 2) (tLst tNil))) (tOp rAddI (tOp (rIx K) (tVar 2) (tUn rNeg (tC (.int 1)))) (tC (.int 1))) (tC (.int 0))) (tCons (tOp rSubI (tVar 1) (tC (.int 1))) tNil))) tNil))))
  (tRet (tVar 2))))
def t_taken_kind (K : PySem.W.Frag) (A : Ads) (E : XK) (sp_Scan_take_of : Sp) (sp_Scan_take_number : Sp) (sp_Scan_ahead : Sp) (sp_taken_link : Sp) (sp_Scan_end_line : Sp) : TS := (tSeq (tDrop (tMeth A.cScan "take_of" sp_Scan_take_of [] E (tVar 0) (tCons (tTup (tCons (tC (.str "kind")) tNil)) tNil)))
  (tSeq (tPar 2 3 (tCons (tMeth A.cScan "take_number" sp_Scan_take_number [] E (tVar 0) (tCons (tC (.int 1)) (tCons (tC (.int 3)) tNil))) (tCons (tLst tNil) tNil)))
  (tSeq (tWhile (tAnd (tTest (tOp rNotN (tMeth A.cScan "ahead" sp_Scan_ahead [] E0 (tVar 0) tNil) (tC .non))) (tTest (tOp rLtI (tCB (rLenV K) (tCons (tVar 3) tNil)) (tCB rMin2 (tCons (tVar 2) (tCons (tC (.int 2)) tNil)))))) (tSeq (tDrop (tMeth A.cScan "take_of" sp_Scan_take_of [] E (tVar 0) (tCons (tTup (tCons (tC (.str ":")) tNil)) tNil)))
  (tDrop (tBM K "list" rAppend (tVar 3) (tCons (tCall sp_taken_link [] E (tCons (tVar 0) (tCons (tVar 1) tNil))) tNil)))))
  (tSeq (tDrop (tMeth A.cScan "end_line" sp_Scan_end_line [] E (tVar 0) tNil))
  (tRet (tTup (tCons (tVar 2) (tCons (tVar 3) tNil))))))))
def t_kinds_ahead (K : PySem.W.Frag) (A : Ads) (E : XK) : TS := (tSeq (tAsg (tC (.int 0)) (gName 1))
  (tSeq (tFor (iSeq K (tSl (rSlX K) (tFld K (tVar 0) "lines") (tPart (tFld K (tVar 0) "line")) tNoPart)) (gName 2) (tSeq (tIfS (tTest (tOp (rNeD K) (tSl (rSlX K) (tVar 2) tNoPart (tPart (tC (.int 1)))) (tLst (tCons (tC (.str "kind")) tNil)))) tBreak tNext)
  (tAug 1 (tC (.int 1)) rAdd)))
  (tRet (tVar 1))))
def t_taken_kinds (K : PySem.W.Frag) (A : Ads) (E : XK) (sp_kinds_ahead : Sp) (sp_taken_kind : Sp) : TS := (tSeq (tPar 1 2 (tCons (tCB rMin2 (tCons (tCB rMax2 (tCons (tC (.int 1)) (tCons (tCall sp_kinds_ahead [] E0 (tCons (tVar 0) tNil)) tNil))) (tCons (tC (.int 3)) tNil))) (tCons (tLst tNil) tNil)))
  (tSeq (tWhile (tTest (tOp rLtI (tCB (rLenV K) (tCons (tVar 2) tNil)) (tVar 1))) (tDrop (tBM K "list" rAppend (tVar 2) (tCons (tCall sp_taken_kind [] E (tCons (tVar 0) (tCons (tVar 1) tNil))) tNil))))
  (tRet (tVar 2))))
def t_taken_collector (K : PySem.W.Frag) (A : Ads) (E : XK) (sp_Scan_take_of : Sp) (sp_taken_count : Sp) (sp_taken_lot : Sp) (sp_Scan_take_number : Sp) (sp_Scan_end_line : Sp) : TS := (tSeq (tDrop (tMeth A.cScan "take_of" sp_Scan_take_of [] E (tVar 0) (tCons (tTup (tCons (tC (.str "collector")) tNil)) tNil)))
  (tSeq (tAsg (tLst (tCons (tMeth A.cScan "take_of" sp_Scan_take_of [] E (tVar 0) (tCons (tC (.ref A.tCOLLECTORS)) tNil)) tNil)) (gName 1))
  (tSeq (tIfS (tTest (tOp (rEqD K) (tOp (rIx K) (tVar 1) (tC (.int 0))) (tC (.str "counts")))) (tSeq (tDrop (tBM K "list" rAppend (tVar 1) (tCons (tCall sp_taken_count [] E (tCons (tVar 0) tNil)) tNil)))
  (tDrop (tBM K "list" rAppend (tVar 1) (tCons (tMeth A.cScan "take_of" sp_Scan_take_of [] E (tVar 0) (tCons (tC (.ref A.tORDERS)) tNil)) tNil)))) (tIfS (tTest (tOp (rEqD K) (tOp (rIx K) (tVar 1) (tC (.int 0))) (tC (.str "marks")))) (tDrop (tBM K "list" rAppend (tVar 1) (tCons (tCall sp_taken_lot [] E (tCons (tVar 0) (tCons (tC (.ref A.tGUARDS)) tNil))) tNil))) (tIfS (tTest (tOp (rEqD K) (tOp (rIx K) (tVar 1) (tC (.int 0))) (tC (.str "young")))) (tSeq (tDrop (tBM K "list" rAppend (tVar 1) (tCons (tMeth A.cScan "take_number" sp_Scan_take_number [] E (tVar 0) (tCons (tC (.int 1)) (tCons (tOp rSubI (tC (.int 12)) (tC (.int 1))) tNil))) tNil)))
  (tDrop (tBM K "list" rAppend (tVar 1) (tCons (tMeth A.cScan "take_of" sp_Scan_take_of [] E (tVar 0) (tCons (tC (.ref A.tREMEMBERS)) tNil)) tNil)))) tNext)))
  (tSeq (tDrop (tMeth A.cScan "end_line" sp_Scan_end_line [] E (tVar 0) tNil))
  (tRet (tVar 1))))))
def t_taken_count (K : PySem.W.Frag) (A : Ads) (E : XK) (sp_Scan_ahead : Sp) (sp_Scan_take_of : Sp) (sp_Scan_take_number : Sp) : TS := (tSeq (tIfS (tTest (tOp (rEqD K) (tMeth A.cScan "ahead" sp_Scan_ahead [] E0 (tVar 0) tNil) (tC (.str "-")))) (tSeq (tDrop (tMeth A.cScan "take_of" sp_Scan_take_of [] E (tVar 0) (tCons (tTup (tCons (tC (.str "-")) tNil)) tNil)))
  (tRet (tC .non))) tNext)
  (tRet (tMeth A.cScan "take_number" sp_Scan_take_number [] E (tVar 0) (tCons (tC (.int 1)) (tCons (tC (.int 3)) tNil)))))
def t_taken_pace (K : PySem.W.Frag) (A : Ads) (E : XK) (sp_Scan_take_of : Sp) (sp_Scan_ahead : Sp) (sp_Scan_take_number : Sp) (sp_Scan_end_line : Sp) : TS := (tSeq (tDrop (tMeth A.cScan "take_of" sp_Scan_take_of [] E (tVar 0) (tCons (tTup (tCons (tC (.str "pace")) tNil)) tNil)))
  (tSeq (tIfS (tTest (tOp (rEqD K) (tMeth A.cScan "ahead" sp_Scan_ahead [] E0 (tVar 0) tNil) (tC (.str "free")))) (tSeq (tDrop (tMeth A.cScan "take_of" sp_Scan_take_of [] E (tVar 0) (tCons (tTup (tCons (tC (.str "free")) tNil)) tNil)))
  (tAsg (tC .non) (gName 1))) (tAsg (tMeth A.cScan "take_number" sp_Scan_take_number [] E (tVar 0) (tCons (tC (.int 0)) (tCons (tC (.int 6)) tNil))) (gName 1)))
  (tSeq (tDrop (tMeth A.cScan "end_line" sp_Scan_end_line [] E (tVar 0) tNil))
  (tRet (tVar 1)))))
def t_taken_asked (K : PySem.W.Frag) (A : Ads) (E : XK) (sp_Scan_take_of : Sp) (sp_Scan_end_line : Sp) : TS := (tSeq (tDrop (tMeth A.cScan "take_of" sp_Scan_take_of [] E (tVar 0) (tCons (tTup (tCons (tC (.str "asked")) tNil)) tNil)))
  (tSeq (tAsg (tLst tNil) (gName 1))
  (tSeq (tWhile (tTest (tOp (rIn K true) (tC (.str "swept")) (tVar 1))) (tDrop (tBM K "list" rAppend (tVar 1) (tCons (tMeth A.cScan "take_of" sp_Scan_take_of [] E (tVar 0) (tCons (tLc (iSeq K (tC (.ref A.tBREAKS))) (gName 2) (tOr (tTest (tOp (rEqD K) (tVar 1) (tLst tNil))) (tTest (tOp rGtS (tVar 2) (tOp (rIx K) (tVar 1) (tUn rNeg (tC (.int 1))))))) (tVar 2) [2]) tNil)) tNil))))
  (tSeq (tDrop (tMeth A.cScan "end_line" sp_Scan_end_line [] E (tVar 0) tNil))
  (tRet (tVar 1))))))
def t_taken_house (K : PySem.W.Frag) (A : Ads) (E : XK) (sp_taken_kinds : Sp) (sp_taken_after : Sp) (sp_taken_collector : Sp) (sp_taken_word : Sp) (sp_taken_pace : Sp) (sp_taken_asked : Sp) (sp_Scan_finish : Sp) (sp_House___init__ : Sp) : TS := (tSeq (tPar 1 2 (tCons (tCall sp_taken_after [] E (tCons (tVar 0) (tCons (tC (.str "cells")) (tCons (tC (.int 1)) (tCons (tC (.int 12)) tNil))))) (tCons (tCall sp_taken_kinds [] E (tCons (tVar 0) tNil)) tNil)))
  (tSeq (tPar 3 4 (tCons (tCall sp_taken_after [] E (tCons (tVar 0) (tCons (tC (.str "registers")) (tCons (tC (.int 1)) (tCons (tC (.int 4)) tNil))))) (tCons (tCall sp_taken_after [] E (tCons (tVar 0) (tCons (tC (.str "live")) (tCons (tC (.int 1)) (tCons (tC (.int 12)) tNil))))) tNil)))
  (tSeq (tPar 5 6 (tCons (tCall sp_taken_word [] E (tCons (tVar 0) (tCons (tC (.str "rooms")) (tCons (tC (.ref A.tROOMS)) tNil)))) (tCons (tCall sp_taken_collector [] E (tCons (tVar 0) tNil)) tNil)))
  (tSeq (tPar 7 8 (tCons (tCall sp_taken_pace [] E (tCons (tVar 0) tNil)) (tCons (tCall sp_taken_word [] E (tCons (tVar 0) (tCons (tC (.str "need")) (tCons (tC (.ref A.tNEEDS)) tNil)))) tNil)))
  (tSeq (tPar 9 10 (tCons (tCall sp_taken_word [] E (tCons (tVar 0) (tCons (tC (.str "slide")) (tCons (tC (.ref A.tTRUTHS)) tNil)))) (tCons (tCall sp_taken_asked [] E (tCons (tVar 0) tNil)) tNil)))
  (tSeq (tDrop (tMeth A.cScan "finish" sp_Scan_finish [] E (tVar 0) tNil))
  (tRet (tMake A.cHouse sp_House___init__ [] E (tCons (tVar 1) (tCons (tVar 2) (tCons (tVar 3) (tCons (tVar 4) (tCons (tVar 5) (tCons (tVar 6) (tCons (tVar 7) (tCons (tVar 8) (tCons (tOp (rEqD K) (tVar 9) (tC (.str "yes"))) (tCons (tVar 10) tNil))))))))))))))))))
def t_read_house (K : PySem.W.Frag) (A : Ads) (E : XK) (sp_taken_house : Sp) (sp_scan_of : Sp) : TS := (tRet (tCall sp_taken_house [] E (tCons (tCall sp_scan_of [] E (tCons (tVar 0) tNil)) tNil)))
end Nv
set_option Elab.async false
set_option linter.all false
set_option maxRecDepth 100000
set_option maxHeartbeats 4000000
/-! Own declarations of k94, for k91. -/
namespace Nv
open PySem PySem.Spec PyProof.Rows L2 StX NvZ
def isI : D → Bool
  | .int _ => true
  | _ => false
def withinD (d : D) (lo hi : Int) : Bool := match d with
  | .int i => decide (lo ≤ i) && decide (i ≤ hi)
  | _ => false
section
variable {K : PySem.W.Frag} {A : Ads} {S : Addr → Prop} {σ : L2.St} {H : Hp} {E : XK}
/-- the first of one, of two, of three -/
def at1 (f : D → D) : List D → D
  | [d] => f d
  | _ => .non
def at2 (f : D → D → D) : List D → D
  | [d, e] => f d e
  | _ => .non
def at3 (f : D → D → D → D) : List D → D
  | [d, e, g] => f d e g
  | _ => .non
def in1 (p : D → Prop) : List D → Prop := fun ds => ∃ d, ds = [d] ∧ p d
def in2 (p : D → D → Prop) : List D → Prop := fun ds => ∃ d e, ds = [d, e] ∧ p d e
def in3 (p : D → D → D → Prop) : List D → Prop := fun ds => ∃ d e g, ds = [d, e, g] ∧ p d e g
theorem RpA.one {vs : List V} {d : D} (r : RpA K S H vs [d]) : ∃ v, vs = [v] ∧ Rp K S H v d := by
  cases r with
  | cons r rn => cases rn; exact ⟨_, rfl, r⟩
theorem RpA.two {vs : List V} {d e : D} (r : RpA K S H vs [d, e]) : ∃ v u, vs = [v, u] ∧ Rp K S H v d ∧ Rp K S H u e := by
  cases r with
  | cons r rn => obtain ⟨u, rfl, q⟩ := rn.one; exact ⟨_, u, rfl, r, q⟩
theorem RpA.three {vs : List V} {d e g : D} (r : RpA K S H vs [d, e, g]) : ∃ v u t, vs = [v, u, t] ∧ Rp K S H v d ∧ Rp K S H u e ∧ Rp K S H t g := by
  cases r with
  | cons r rn => obtain ⟨u, t, rfl, q⟩ := rn.two; exact ⟨_, u, t, rfl, r, q⟩
theorem filt_t {α : Type} (l : List α) : l.filter (fun _ => true) = l := List.filter_eq_self.mpr fun _ _ => rfl
theorem gn_mono {i : Nat} : ∀ (x : V) (σ : L2.St) (H : Hp) (Q Q' : L2.St → Hp → Prop), (∀ σ2 H2, Q σ2 H2 → Q' σ2 H2) → gName i x σ H Q → gName i x σ H Q' := fun _ _ _ _ _ h q => h _ _ q
/-- [te for name in wi] -/
theorem ev_map {wi : TI} {i : Nat} {te : TE} {ds : List D} {f : D → D} (m : Mem S H) (hi : EvI K S wi σ H ds) (hl : ds.length ≤ 100000)
    (hb : ∀ S' H', Mem S' H' → Up K S H S' H' → Ex H H' → ∀ x d, d ∈ ds → Rp K S' H' x d → wipe ((wipe σ [i]).set i (some x)) [i] = wipe σ [i] ∧ EvD K S' te ((wipe σ [i]).set i (some x)) H' (f d)) :
    EvD K S (tLc wi (gName i) tYes te [i]) σ H (.lst (ds.map f)) := by
  have h := ev_lc (p := fun _ => true) (f := f) (g := gName i) (tt := tYes) m hi hl (fun S' H' m' up ex x d hd rx => ⟨Evl.Ex.refl _, (hb S' H' m' up ex x d hd rx).1, fun H1 _ Q q => q H1 (Evl.Ex.refl _), fun _ => (hb S' H' m' up ex x d hd rx).2⟩) gn_mono
  rwa [filt_t] at h
/-- [te for name in wi if t] -/
theorem ev_filter {wi : TI} {i : Nat} {tt : TT} {te : TE} {ds : List D} {p : D → Bool} {f : D → D} (m : Mem S H) (hi : EvI K S wi σ H ds) (hl : ds.length ≤ 100000)
    (hb : ∀ S' H', Mem S' H' → Up K S H S' H' → Ex H H' → ∀ x d, d ∈ ds → Rp K S' H' x d → wipe ((wipe σ [i]).set i (some x)) [i] = wipe σ [i] ∧ EvB tt ((wipe σ [i]).set i (some x)) H' (p d) ∧ (p d = true → EvD K S' te ((wipe σ [i]).set i (some x)) H' (f d))) :
    EvD K S (tLc wi (gName i) tt te [i]) σ H (.lst ((ds.filter p).map f)) := ev_lc m hi hl (fun S' H' m' up ex x d hd rx => ⟨Evl.Ex.refl _, hb S' H' m' up ex x d hd rx⟩) gn_mono
abbrev spInteger (K : PySem.W.Frag) : Sp := Pure K 1 (in1 fun d => d.base = true) (at1 fun d => .bl (isI d))
theorem pr_integer (vs : List V) (H : Hp) (Q : VK) (E : XK) (h : spInteger K vs H Q E) : t_is_integer K A E { nx := fun _ H' => Q .non H', rt := Q } (start ["value"] vs) H := pure_of h fun S ds hn m r hp => by
  obtain ⟨d, rfl, hb⟩ := hp
  obtain ⟨v, rfl, r1⟩ := r.one
  refine (es_ret (ev_and (r_isi (ev_var m rfl r1) (okT_base hb) (ki_int hb)) fun _ => ev_not (r_isi (ev_var m rfl r1) (okT_base hb) (ki_bool hb)))).is ?_
  cases d <;> rfl
abbrev spWithin (K : PySem.W.Frag) : Sp := Pure K 3 (in3 fun d e g => d.base = true ∧ isI e = true ∧ isI g = true) (at3 fun d e g => match e, g with
  | .int lo, .int hi => .bl (withinD d lo hi)
  | _, _ => .non)
theorem pr_within (vs : List V) (H : Hp) (Q : VK) (E : XK) (h : spWithin K vs H Q E) : t_is_within K A E (spInteger K) { nx := fun _ H' => Q .non H', rt := Q } (start ["value", "least", "most"] vs) H := pure_of h fun S ds hn m r hp => by
  obtain ⟨d, e, g, rfl, hb, he, hg⟩ := hp
  obtain ⟨v, u, t, rfl, r1, r2, r3⟩ := r.three
  cases e with
  | int lo =>
    cases g with
    | int hi =>
      refine (es_ret (ev_and (ev_pure m (ea_cons m (ev_var m rfl r1) ea_nil) rfl ⟨d, rfl, hb⟩) (b := match d with | .int i => decide (lo ≤ i) && decide (i ≤ hi) | _ => false) fun hI => ?_)).is ?_
      · cases d with
        | int i => exact ev_chain m (ev_var m rfl r2) (ev_var m rfl r1) r_le (fun _ => ev_var m rfl r3) fun _ => r_le
        | _ => cases hI
      · cases d <;> rfl
    | _ => cases hg
  | _ => cases he
abbrev spListed (K : PySem.W.Frag) : Sp := Pure K 1 (in1 fun d => d.base = true) (at1 fun d => .bl d.isLT)
theorem pr_listed (vs : List V) (H : Hp) (Q : VK) (E : XK) (h : spListed K vs H Q E) : t_is_listed K A E { nx := fun _ H' => Q .non H', rt := Q } (start ["value"] vs) H := pure_of h fun S ds hn m r hp => by
  obtain ⟨d, rfl, hb⟩ := hp
  obtain ⟨v, rfl, r1⟩ := r.one
  exact es_ret (r_isiLT m (ev_var m rfl r1) (okT_base hb) (ki_LT hb))
abbrev spPlainTuple (K : PySem.W.Frag) : Sp := Pure K 2 (in2 fun d e => d.base = true ∧ isI e = true) (at2 fun d e => match e with
  | .int n => .bl (d.isLT && decide ((lenD d : Int) = n))
  | _ => .non)
theorem eqD_int (i j : Int) : eqD (.int i) (.int j) = decide (i = j) := by
  show (i == j) = _
  rw [Bool.beq_eq_decide_eq]
theorem pr_plain (vs : List V) (H : Hp) (Q : VK) (E : XK) (h : spPlainTuple K vs H Q E) : t_is_plain_tuple K A E (spListed K) { nx := fun _ H' => Q .non H', rt := Q } (start ["value", "many"] vs) H := pure_of h fun S ds hn m r hp => by
  obtain ⟨d, e, rfl, hb, he⟩ := hp
  obtain ⟨v, u, rfl, r1, r2⟩ := r.two
  cases e with
  | int n =>
    refine (es_ret (ev_and (ev_pure m (ea_cons m (ev_var m rfl r1) ea_nil) rfl ⟨d, rfl, hb⟩) (b := eqD (.int (lenD d)) (.int n)) fun hI => ?_)).is ?_
    · exact ev_op m (ev_cb (ea_cons m (ev_var m rfl r1) ea_nil) (ra_len (by cases d <;> first | rfl | cases hI))) (ev_var m rfl r2) (r_eqD rfl rfl (Nat.zero_le _) (Nat.zero_le _))
    · rw [eqD_int]; rfl
  | _ => cases he
mutual
def fixD : D → D
  | .lst ds => .tup (fixA ds)
  | .tup ds => .tup (fixA ds)
  | d => d
def fixA : List D → List D
  | [] => []
  | d :: ds => fixD d :: fixA ds
end
theorem fixA_map : ∀ ds, fixA ds = ds.map fixD
  | [] => rfl
  | d :: ds => by rw [fixA, List.map_cons, fixA_map ds]
mutual
/-- bases all through, of lists that are not long -/
def okF : D → Bool
  | .lst ds => decide (ds.length ≤ 100000) && okFA ds
  | .tup ds => decide (ds.length ≤ 100000) && okFA ds
  | .ins _ => false
  | _ => true
def okFA : List D → Bool
  | [] => true
  | d :: ds => okF d && okFA ds
end
theorem okFA_all : ∀ {ds : List D}, okFA ds = true → ∀ d ∈ ds, okF d = true
  | d :: ds, h, e, he => by
    have h' : okF d = true ∧ okFA ds = true := by simpa [okFA] using h
    rcases List.mem_cons.mp he with z | z
    · rw [z]; exact h'.1
    · exact okFA_all h'.2 e z
theorem depA_le : ∀ {ds : List D} {n : Nat}, depA ds ≤ n → ∀ d ∈ ds, dep d ≤ n
  | d :: ds, n, h, e, he => by
    have h' : dep d ≤ n ∧ depA ds ≤ n := by simpa [depA, Nat.max_le] using h
    rcases List.mem_cons.mp he with z | z
    · rw [z]; exact h'.1
    · exact depA_le h'.2 e z
abbrev spFixed (K : PySem.W.Frag) (n : Nat) : Sp := Pure K 1 (in1 fun d => okF d = true ∧ dep d < n) (at1 fixD)
theorem okF_base {d : D} (h : okF d = true) : d.base = true := by cases d <;> first | rfl | cases h
theorem pr_fixed (n : Nat) (vs : List V) (H : Hp) (Q : VK) (E : XK) (h : spFixed K (n + 1) vs H Q E) : t_fixed K A E (spFixed K n) { nx := fun _ H' => Q .non H', rt := Q } (start ["value", "part"] vs) H := pure_of h fun S ds hn m r hp => by
  obtain ⟨d, rfl, ho, hd⟩ := hp
  obtain ⟨v, rfl, r1⟩ := r.one
  have hb := okF_base ho
  refine es_ifret (eb_B (r_isiLT m (ev_var m rfl r1) (okT_base hb) (ki_LT hb))) (fun hL => ?_) (fun hL => ?_)
  · have fin : ∀ es : List D, items d = es → fixD d = .tup (es.map fixD) → okFA es = true → es.length ≤ 100000 → depA es < n → EvS K S (tRet (tCB (rTupOf K) (tCons (tLc (iSeq K (tVar 0)) (gName 1) tYes (tCall (spFixed K n) [] E0 (tCons (tVar 1) tNil)) [1]) tNil))) (start ["value", "part"] [v]) H (fixD d) := fun es e1 e2 ok hl hdep => by
      rw [e2]
      refine es_ret (ev_cb (ea_cons m ((ev_map (f := fixD) m (ei_seq m (ev_var m rfl r1) (by cases d <;> first | rfl | cases hL)) (by rw [e1]; exact hl) fun S' H' m' up ex x e he rx => ?_).is (by rw [e1])) ea_nil) (ra_tup m))
      rw [e1] at he
      exact ⟨rfl, ev_pure m' (ea_cons m' (ev_var m' rfl rx) ea_nil) rfl ⟨e, rfl, okFA_all ok e he, Nat.lt_of_le_of_lt (depA_le (Nat.le_refl _) e he) hdep⟩⟩
    cases d with
    | lst es =>
      have ho' : es.length ≤ 100000 ∧ okFA es = true := by simpa [okF] using ho
      have hd' : depA es + 1 < n + 1 := hd
      exact fin es rfl (by rw [fixD, fixA_map]) ho'.2 ho'.1 (by omega)
    | tup es =>
      have ho' : es.length ≤ 100000 ∧ okFA es = true := by simpa [okF] using ho
      have hd' : depA es + 1 < n + 1 := hd
      exact fin es rfl (by rw [fixD, fixA_map]) ho'.2 ho'.1 (by omega)
    | _ => cases hL
  · refine (es_ret (ev_var m rfl r1)).is ?_
    cases d <;> first | rfl | cases hL
end

def figs : Str := "0123456789"
def digits (w : Str) : Bool := (w.cps.toList.map fun c => decide (c ∈ figs.cps.toList)).all id
def num (w : Str) : Int := (PySem.intText? w).getD 0
/-- a word that may be read -/
def wdB (w : Str) : Bool := PyData.strOk w && decide (w.length ≤ 100) && (!digits w || (decide (w.length = 0) || (PySem.intText? w).isSome))
def head0 (w : Str) : Str := ⟨#[w.cps.getD 0 0]⟩
def figB (w : Str) (lo hi : Int) : Bool :=
  if (!(decide ((1 : Int) ≤ w.length) && decide ((w.length : Int) ≤ 9)) || !digits w) = true then false
  else (decide (w = "0") || !decide (head0 w = "0")) && (decide (lo ≤ num w) && decide (num w ≤ hi))
def wordD : D → Bool
  | .non => true
  | .str w => wdB w
  | _ => false
def figD : D → Int → Int → Bool
  | .str w, lo, hi => figB w lo hi
  | _, _, _ => false
section
variable {K : PySem.W.Frag} {A : Ads} {S : Addr → Prop} {σ : L2.St} {H : Hp} {E : XK}
theorem eqD_str (a b : Str) : eqD (.str a) (.str b) = decide (a = b) := by
  show (a == b) = _
  rw [Bool.beq_eq_decide_eq]
abbrev spFigure (K : PySem.W.Frag) : Sp := Pure K 3 (in3 fun d e g => wordD d = true ∧ isI e = true ∧ isI g = true) (at3 fun d e g => match e, g with
  | .int lo, .int hi => .bl (figD d lo hi)
  | _, _ => .non)
theorem pr_figure (vs : List V) (H : Hp) (Q : VK) (E : XK) (h : spFigure K vs H Q E) : t_is_figure K A E { nx := fun _ H' => Q .non H', rt := Q } (start ["word", "least", "most", "sign"] vs) H := pure_of h fun S ds hn m r hp => by
  obtain ⟨d, e, g, rfl, hb, he, hg⟩ := hp
  obtain ⟨v, u, t, rfl, r1, r2, r3⟩ := r.three
  cases e with
  | int lo =>
    cases g with
    | int hi =>
      cases d with
      | non =>
        refine (es_ifret (b := true) ((eb_or (b := true) (eb_T (ev_op m (ev_var m rfl r1) ev_non r_isN)) fun z => by cases z).is rfl) (fun _ => es_ret ev_bl) fun z => by cases z).is rfl
      | str w =>
        have hw : (PyData.strOk w && decide (w.length ≤ 100) && (!digits w || (decide (w.length = 0) || (PySem.intText? w).isSome))) = true := hb
        simp only [Bool.and_eq_true, Bool.or_eq_true, Bool.not_eq_true', decide_eq_true_eq] at hw
        obtain ⟨⟨hok, hlen⟩, hnum⟩ := hw
        have hl : EvD K S (tCB (rLenV K) (tCons (tVar 0) tNil)) (start ["word", "least", "most", "sign"] [v, u, t]) H (.int w.length) := ev_cb (ea_cons m (ev_var m rfl r1) ea_nil) (ra_len (by simp [lenOk]; omega))
        have hall : EvB (tB (tCB (rAll K) (tCons (tLc (iSeq K (tVar 0)) (gName 3) tYes (tOp rInSign (tVar 3) (tC (.str "0123456789"))) [3]) tNil))) (start ["word", "least", "most", "sign"] [v, u, t]) H (digits w) :=
          eb_B (ev_cb (ea_cons m ((ev_map (f := fun d => match d with | .str x => .bl (decide (x.cps.getD 0 0 ∈ figs.cps.toList)) | _ => .non) m (ei_seq m (ev_var m rfl r1) rfl) (by
              show (w.cps.toList.map _).length ≤ _
              rw [List.length_map, Array.length_toList]
              have : w.cps.size = w.length := rfl
              omega) fun S' H' m' up ex x d hd rx => by
            obtain ⟨c, hc, rfl⟩ := List.mem_map.mp (show d ∈ w.cps.toList.map fun c => D.str ⟨#[c]⟩ from hd)
            refine ⟨rfl, fun H1 e1 Q q => ?_⟩
            cases rx
            exact ⟨_, rfl, c, figs, rfl, rfl, q _ H1 (Evl.Ex.refl _) (.bl _)⟩).is (by
              show D.lst ((w.cps.toList.map fun c => D.str ⟨#[c]⟩).map _) = D.lst ((w.cps.toList.map fun c => decide (c ∈ figs.cps.toList)).map D.bl)
              rw [List.map_map, List.map_map]
              rfl)) ea_nil) ra_all)
        refine (es_ifret (b := (!(decide ((1 : Int) ≤ w.length) && decide ((w.length : Int) ≤ 9)) || !digits w)) (eb_or (a := false) (eb_T (ev_op m (ev_var m rfl r1) ev_non r_isN)) fun _ =>
          eb_or (eb_not (eb_T (ev_chain m ev_int hl r_le (fun _ => ev_int) fun _ => r_le))) fun _ => eb_not hall) (fun hc => (es_ret (ev_bl (i := false))).is (show D.bl false = D.bl (figB w lo hi) by rw [figB, if_pos hc])) fun hc => ?_)
        have hc' : (decide ((1 : Int) ≤ w.length) && decide ((w.length : Int) ≤ 9)) = true ∧ digits w = true := by
          rw [Bool.or_eq_false_iff] at hc
          exact ⟨by simpa using hc.1, by simpa using hc.2⟩
        have h1 : 1 ≤ w.length := by
          have := hc'.1
          simp only [Bool.and_eq_true, decide_eq_true_eq] at this
          omega
        obtain ⟨n, hn⟩ : ∃ n, PySem.intText? w = some n := by
          rcases hnum with z | z | z
          · rw [hc'.2] at z; cases z
          · omega
          · exact Option.isSome_iff_exists.mp z
        have hnn : num w = n := by unfold num; rw [hn]; rfl
        have h0 : w.cps[0]? = some (w.cps.getD 0 0) := by
          have : 0 < w.cps.size := h1
          rw [Array.getElem?_eq_getElem this]
          simp [Array.getD, this]
        refine (es_ret (ev_and (ev_or (ev_op m (ev_var m rfl r1) ev_str (r_eqD (d1 := .str w) hok (by decide +kernel) (Nat.zero_le _) (Nat.zero_le _))) fun _ =>
            ev_op m (ev_op m (ev_var m rfl r1) ev_int (r_ixS (by omega) h0)) ev_str (r_neD (d1 := .str (head0 w)) ?_ (by decide +kernel) (Nat.zero_le _) (Nat.zero_le _))) fun _ =>
            ev_chain m (ev_var m rfl r2) (ev_cb (ea_cons m (ev_var m rfl r1) ea_nil) (ra_intS hn (by omega))) r_le (fun _ => ev_var m rfl r3) fun _ => r_le)).is ?_
        · show PyData.strOk (head0 w) = true
          have : w.cps.getD 0 0 ∈ w.cps.toList := by
            have hz := List.mem_of_getElem? (l := w.cps.toList) (i := 0) (by rw [Array.getElem?_toList]; exact h0)
            exact hz
          have ha : w.cps.all (· < 0x110000) = true := hok
          rw [← Array.all_toList] at ha
          have := List.all_eq_true.mp ha _ this
          show (#[w.cps.getD 0 0]).all (· < 0x110000) = true
          simpa using this
        · rw [eqD_str, eqD_str, ← hnn]
          show _ = D.bl (figB w lo hi)
          rw [figB, if_neg (by rw [hc]; exact Bool.false_ne_true)]
      | _ => cases hb
    | _ => cases hg
  | _ => cases he
end

section
variable {K : PySem.W.Frag} {A : Ads} {S : Addr → Prop} {σ : L2.St} {H : Hp} {E : XK}
abbrev g2 (K : PySem.W.Frag) (i j : Nat) : TG := gTup K 2 (gCons (gName i) (gCons (gName j) gNil))
theorem g2_mono {i j : Nat} : ∀ (x : V) (σ : L2.St) (H : Hp) (Q Q' : L2.St → Hp → Prop), (∀ σ2 H2, Q σ2 H2 → Q' σ2 H2) → g2 K i j x σ H Q → g2 K i j x σ H Q' := fun x σ H Q Q' h q => by
  obtain ⟨a, xs, e, hs, hl, v, r, e2, v2, r2, e3, e4, q⟩ := q
  exact ⟨a, xs, e, hs, hl, v, r, e2, v2, r2, e3, e4, h _ _ q⟩
theorem g2_of {i j : Nat} {x : V} {d1 d2 : D} {Q : L2.St → Hp → Prop} (r : Rp K S H x (.tup [d1, d2])) (h : ∀ v w, Rp K S H v d1 → Rp K S H w d2 → Q ((σ.set i (some v)).set j (some w)) H) : g2 K i j x σ H Q := by
  cases r with
  | @tup a xs _ h1 h2 =>
    obtain ⟨v, w, rfl, r1, r2⟩ := h2.two
    exact ⟨a, _, rfl, h1.sq, rfl, v, [w], rfl, w, [], rfl, rfl, h v w r1 r2⟩
def pairD (p : D × D) : D := .tup [p.1, p.2]
def onPair {α : Type} (f : D × D → α) (z : α) : D → α
  | .tup [a, b] => f (a, b)
  | _ => z
theorem ev_map2 {wi : TI} {i j : Nat} {te : TE} {ps : List (D × D)} {f : D × D → D} (m : Mem S H) (hi : EvI K S wi σ H (ps.map pairD)) (hl : ps.length ≤ 100000)
    (hb : ∀ S' H', Mem S' H' → Up K S H S' H' → Ex H H' → ∀ p, p ∈ ps → ∀ x y, Rp K S' H' x p.1 → Rp K S' H' y p.2 → wipe (((wipe σ [i, j]).set i (some x)).set j (some y)) [i, j] = wipe σ [i, j] ∧ EvD K S' te (((wipe σ [i, j]).set i (some x)).set j (some y)) H' (f p)) :
    EvD K S (tLc wi (g2 K i j) tYes te [i, j]) σ H (.lst (ps.map f)) := by
  have h := ev_lc (p := fun _ => true) (f := onPair f .non) (g := g2 K i j) (tt := tYes) (te := te) (vs := [i, j]) m hi (by rw [List.length_map]; exact hl) (fun S' H' m' up ex x d hd rx => by
    obtain ⟨p, hp, rfl⟩ := List.mem_map.mp hd
    exact g2_of rx fun v w r1 r2 => ⟨Evl.Ex.refl _, (hb S' H' m' up ex p hp v w r1 r2).1, fun H1 _ Q q => q H1 (Evl.Ex.refl _), fun _ => (hb S' H' m' up ex p hp v w r1 r2).2⟩) g2_mono
  rw [filt_t, List.map_map] at h
  exact h
end

section
variable {K : PySem.W.Frag} {A : Ads} {S : Addr → Prop} {σ : L2.St} {H : Hp} {E : XK}
def SeqD (d : D) (ds : List D) : Prop := d = .lst ds ∨ d = .tup ds
def likeD (d : D) (es : List D) : D := match d with
  | .lst _ => .lst es
  | _ => .tup es
theorem r_ixQ {d e : D} {ds : List D} {j : Nat} (h : SeqD d ds) (hj : ds[j]? = some e) : R2D K S (rIx K) H d (.int j) e := by
  rcases h with rfl | rfl
  · exact r_ixL hj
  · exact r_ixT hj
theorem items_Q {d : D} {ds : List D} (h : SeqD d ds) : items d = ds := by rcases h with rfl | rfl <;> rfl
theorem lenD_Q {d : D} {ds : List D} (h : SeqD d ds) : lenD d = ds.length := by rcases h with rfl | rfl <;> rfl
theorem lenOk_Q {d : D} {ds : List D} (h : SeqD d ds) : lenOk d = true := by rcases h with rfl | rfl <;> rfl
theorem isLT_Q {d : D} {ds : List D} (h : SeqD d ds) : d.isLT = true := by rcases h with rfl | rfl <;> rfl
theorem base_Q {d : D} {ds : List D} (h : SeqD d ds) : d.base = true := by rcases h with rfl | rfl <;> rfl
theorem walks_Q {d : D} {ds : List D} (h : SeqD d ds) : walks d = true := by rcases h with rfl | rfl <;> rfl
theorem ok_zip {α : Type} {l : List Str} {ps : List α} {p : Str × α} (h : p ∈ l.zip ps) : p.1 ∈ l ∧ p.2 ∈ ps := ⟨(List.of_mem_zip h).1, (List.of_mem_zip h).2⟩
theorem withinD_int {d : D} {lo hi : Int} (h : withinD d lo hi = true) : ∃ i, d = .int i := by cases d <;> first | exact ⟨_, rfl⟩ | cases h
end

theorem zip_right_mem {α β : Type} : ∀ {l : List α} {r : List β}, l.length = r.length → ∀ b ∈ r, ∃ a, (a, b) ∈ l.zip r
  | [], [], _, b, h => by cases h
  | a :: l, c :: r, hl, b, h => by
    rcases List.mem_cons.mp h with e | e
    · exact ⟨a, by rw [e]; exact List.mem_cons_self⟩
    · obtain ⟨x, hx⟩ := zip_right_mem (by simpa using hl) b e
      exact ⟨x, List.mem_cons_of_mem _ hx⟩
section
variable {K : PySem.W.Frag} {A : Ads} {S : Addr → Prop} {σ : L2.St} {H : Hp} {E : XK}
theorem sum_le {α : Type} {g : α → Nat} {n : Nat} : ∀ {l : List α}, (∀ x ∈ l, g x ≤ n) → (l.map g).sum ≤ l.length * n
  | [], _ => by simp
  | x :: l, h => by
    have h1 := h x List.mem_cons_self
    have h2 := sum_le (l := l) fun y hy => h y (List.mem_cons_of_mem _ hy)
    simp only [List.map_cons, List.sum_cons, List.length_cons, Nat.succ_mul]
    omega
theorem join_len (sep : Str) (l : List Str) : (Txt.join sep l).length ≤ (l.map (·.length)).sum + l.length * sep.length := by
  show (Builtin.Str.glued sep l).length ≤ _
  rw [StrLaws.glued_eq_join]
  exact StrLaws.join_length_le sep l
/-- raise X(..) of ints -/
theorem ts_raise {C : Addr} {fs : List Str} {W : WX} {ta : TA} {is : List Int} {D0 : Ends} (h : EvA K S ta σ H (is.map D.int)) (hl : is.length = fs.length) (hs : ∀ i ∈ is, i.natAbs.log2 < 1920)
    (q : ∀ p H', Ex H H' → H p = none → H' p = some (.xd (fs.zip (is.map V.int))) → W (.ref C) (some p) σ H') : tRaiseX C fs W ta D0 σ H := h H (Evl.Ex.refl _) _ fun vs H1 e1 r1 => by
  obtain rfl := r1.ints
  refine ⟨by rw [List.length_map]; exact hl, fun v hv => ?_, fun d hd => ?_⟩
  · obtain ⟨i, hi, rfl⟩ := List.mem_map.mp hv
    exact .inr ⟨i, rfl, hs i hi⟩
  · refine q d _ (e1.trans (Evl.Ex.new hd)) ?_ upd_same
    cases z : H d with
    | none => rfl
    | some o => rw [e1 _ _ z] at hd; cases hd
def at1X (f : D → Addr × List (Str × V) ⊕ D) : List D → Addr × List (Str × V) ⊕ D
  | [d] => f d
  | _ => .inr .non
theorem PureX.len {n : Nat} {pre : List D → Prop} {f : List D → Addr × List (Str × V) ⊕ D} {vs : List V} {Q : VK} (h : PureX K n pre f vs H Q E) : vs.length = n := by
  obtain ⟨S, ds, hl, m, r, _⟩ := h
  rw [r.length]; exact hl
theorem mapIdx_get {ds : List D} {i : Nat} {d : D} (h : (ds.mapIdx fun i d => D.tup [.int i, d])[i]? = some d) : ∃ e, ds[i]? = some e ∧ d = .tup [.int i, e] := by
  rw [List.getElem?_mapIdx, Option.map_eq_some_iff] at h
  obtain ⟨e, h1, rfl⟩ := h
  exact ⟨e, h1, rfl⟩
theorem small_nat {n : Nat} (h : n ≤ 100000) : ((n : Nat) : Int).natAbs.log2 < 1920 := by
  have e : ((n : Nat) : Int).natAbs = n := rfl
  rw [e]
  by_cases h0 : n = 0
  · subst h0; decide
  · have := (Nat.log2_lt h0).mpr (show n < 2 ^ 1920 from Nat.lt_of_le_of_lt h (by decide +kernel))
    exact this
theorem ts_if {b : Bool} {t : TT} {u r : TS} {D0 : Ends} (h : EvB t σ H b) (k : ∀ H1, Ex H H1 → if b = true then u D0 σ H1 else r D0 σ H1) : tIfS t u r D0 σ H := h H (Evl.Ex.refl _) _ fun H1 e1 => k H1 e1
theorem ts_ifseq {b : Bool} {t : TT} {u r w : TS} {D0 : Ends} (h : EvB t σ H b) (k : ∀ H1, Ex H H1 → if b = true then u { D0 with nx := w D0 } σ H1 else r { D0 with nx := w D0 } σ H1) : tSeq (tIfS t u r) w D0 σ H := h H (Evl.Ex.refl _) _ fun H1 e1 => k H1 e1
theorem ts_ret {te : TE} {d : D} {D0 : Ends} (h : EvD K S te σ H d) (q : ∀ v H1, Ex H H1 → Rp K S H1 v d → D0.rt v H1) : tRet te D0 σ H := h H (Evl.Ex.refl _) _ q
theorem ts_set {te : TE} {i : Nat} {d : D} {r : TS} {D0 : Ends} (h : EvD K S te σ H d) (q : ∀ v H1, Ex H H1 → Rp K S H1 v d → r D0 (σ.set i (some v)) H1) : tSeq (tAsg te (gName i)) r D0 σ H := h H (Evl.Ex.refl _) _ q
theorem ts_forseq {wi : TI} {g : TG} {tb r : TS} {E : Ends} {ds : List D} (hi : EvI K S wi σ H ds)
    (h : ∀ H2, Ex H H2 → ∃ Pv : Nat → L2.St → Hp → Prop, Pv 0 σ H2 ∧ (∀ i σ' H', Pv i σ' H' → ∃ S', Mem S' H' ∧ Up K S H2 S' H') ∧
      (∀ i d σ' H', ds[i]? = some d → Pv i σ' H' → ∀ x H'', Ex H' H'' → (∀ S', Mem S' H' → Up K S H2 S' H' → Rp K S' H'' x d) → g x σ' H'' fun σ2 H3 => tb { E with nx := Pv (i + 1), ct := Pv (i + 1), bk := r E } σ2 H3) ∧
      (∀ σ' H', Pv ds.length σ' H' → r E σ' H')) : tSeq (tFor wi g tb) r E σ H := ts_for (E := { E with nx := r E }) hi h
end

section
variable {K : PySem.W.Frag} {A : Ads} {S : Addr → Prop} {σ : L2.St} {H : Hp} {E : XK}
theorem cx_pure {n : Nat} {pre : List D → Prop} {f : List D → Addr × List (Str × V) ⊕ D} {ta : TA} {ds : List D} {Q : VK} (m : Mem S H) (h : EvA K S ta σ H ds) (hn : ds.length = n) (hp : pre ds)
    (q : match f ds with
      | .inr d => ∀ v H', Ex H H' → Rp K S H' v d → Q v H'
      | .inl x => ∀ p H', Ex H H' → H p = none → H' p = some (.xd x.2) → E (.ref x.1) (some p) H') : tCall (PureX K n pre f) [] E ta σ H Q := h H (Evl.Ex.refl _) _ fun vs H1 e1 r1 => by
  refine ⟨S, ds, hn, m.ex e1, by rw [List.append_nil]; exact r1, hp, ?_⟩
  cases hf : f ds with
  | inr d =>
    rw [hf] at q
    exact fun v H' e r => q v H' (e1.trans e) r
  | inl x =>
    rw [hf] at q
    refine fun p H' e hp h6 => q p H' (e1.trans e) ?_ h6
    cases z : H p with
    | none => rfl
    | some o => rw [e1 _ _ z] at hp; cases hp
theorem ts_setk {te : TE} {i : Nat} {r : TS} {D0 : Ends} (h : te σ H fun v H1 => r D0 (σ.set i (some v)) H1) : tSeq (tAsg te (gName i)) r D0 σ H := h
end

end Nv
set_option Elab.async false
set_option linter.all false
set_option maxRecDepth 100000
set_option maxHeartbeats 4000000
/-! Own declarations of k94, for k91. -/
namespace Nv
open PySem PySem.Spec PyProof.Rows L2 StX NvZ
def linesD (ls : List (List Str)) : D := .lst (ls.map fun ws => .lst (ws.map D.str))
def scanF (vl : V) (l a : Nat) : List (Str × V) := [("lines", vl), ("line", .int l), ("at", .int a)]
def ScanAt (K : PySem.W.Frag) (A : Ads) (S : Addr → Prop) (H : Hp) (q : Addr) (ls : List (List Str)) (l a : Nat) : Prop :=
  S q ∧ ∃ dx vl, H q = some (.ins A.cScan dx (scanF vl l a)) ∧ Rp K S H vl (linesD ls)
structure Sx (A : Ads) (K : PySem.W.Frag) : Prop where
  cl : Cls K A.cScan
  nLines : NoAttr K A.cScan "lines"
  nLine : NoAttr K A.cScan "line"
  nAt : NoAttr K A.cScan "at"
def aheadO (ls : List (List Str)) (l a : Nat) : Option Str := if l = ls.length then none else (ls.getD l [])[a]?
def wv : Option Str → V
  | none => .non
  | some w => .str w
def wD : Option Str → D
  | none => .non
  | some w => .str w
/-- a scan's place -/
structure Plc (ls : List (List Str)) (l a : Nat) : Prop where
  many : ls.length ≤ 1000
  each : ∀ ws ∈ ls, ws.length ≤ 1000 ∧ ∀ w ∈ ws, wdB w = true
  lok : l ≤ ls.length
  aok : l < ls.length → a ≤ (ls.getD l []).length
  aa : a ≤ 1001
def Ex1 (q : Addr) (H H' : Hp) : Prop := ∀ b o, b ≠ q → H b = some o → H' b = some o
def Stops (A : Ads) (H : Hp) (l a : Nat) (E : XK) : Prop := ∀ p H', Ex H H' → H p = none → H' p = some (.xd [("line", .int l), ("word", .int a)]) → E (.ref A.cBadText) (some p) H'
section
variable {K : PySem.W.Frag} {A : Ads} {S : Addr → Prop} {σ : L2.St} {H H' : Hp} {E : XK} {q : Addr} {ls : List (List Str)} {l a : Nat}
theorem Ex.ex1 (e : Ex H H') : Ex1 q H H' := fun b o _ h => e b o h
theorem Ex1.refl : Ex1 q H H := fun _ _ _ h => h
theorem Ex1.trans {H2 : Hp} (e : Ex1 q H H') (f : Ex1 q H' H2) : Ex1 q H H2 := fun b o n h => f b o n (e b o n h)
theorem Ex1.exS (m : Mem S H) (hq : S q) (e : Ex1 q H H') (h : ∃ o, H' q = some o) : ExS S H H' := ⟨fun b o n h => e b o (fun z => n (z ▸ hq)) h, fun b s => by
  by_cases z : b = q
  · rw [z]; exact h
  · obtain ⟨o, ho⟩ := m b s
    exact ⟨o, e b o z ho⟩⟩
theorem Stops.mono (h : Stops A H l a E) (e : Ex H H') : Stops A H' l a E := fun p H2 e2 hp h2 => h p H2 (e.trans e2) (by
  cases z : H p with
  | none => rfl
  | some o => rw [e _ _ z] at hp; cases hp) h2
theorem ScanAt.ex (m : Mem S H) (e : Ex H H') (h : ScanAt K A S H q ls l a) : ScanAt K A S H' q ls l a := by
  obtain ⟨s, dx, vl, h1, h2⟩ := h
  exact ⟨s, dx, vl, e _ _ h1, h2.mono (.of m e)⟩
theorem ev_fld {i : Nat} {f : Str} {C dx : Addr} {fs : List (Str × V)} {v : V} {d : D} (m : Mem S H) (hσ : σ[i]? = some (some (.ref q))) (hq : H q = some (.ins C dx fs)) (cl : Cls K C) (na : NoAttr K C f) (lk : fs.lookup f = some v) (r : Rp K S H v d) : EvD K S (tFld K (tVar i) f) σ H d :=
  fun H1 e Q k => ⟨.ref q, hσ, q, C, dx, fs, v, rfl, e _ _ hq, cl, na, lk, k v H1 (Evl.Ex.refl _) (r.mono (.of m e))⟩
theorem ev_lines {i : Nat} (X : Sx A K) (m : Mem S H) (hσ : σ[i]? = some (some (.ref q))) (h : ScanAt K A S H q ls l a) : EvD K S (tFld K (tVar i) "lines") σ H (linesD ls) := by
  obtain ⟨s, dx, vl, h1, h2⟩ := h
  exact ev_fld m hσ h1 X.cl X.nLines rfl h2
theorem ev_line {i : Nat} (X : Sx A K) (m : Mem S H) (hσ : σ[i]? = some (some (.ref q))) (h : ScanAt K A S H q ls l a) : EvD K S (tFld K (tVar i) "line") σ H (.int l) := by
  obtain ⟨s, dx, vl, h1, h2⟩ := h
  exact ev_fld m hσ h1 X.cl X.nLine rfl (.int _)
theorem ev_at {i : Nat} (X : Sx A K) (m : Mem S H) (hσ : σ[i]? = some (some (.ref q))) (h : ScanAt K A S H q ls l a) : EvD K S (tFld K (tVar i) "at") σ H (.int a) := by
  obtain ⟨s, dx, vl, h1, h2⟩ := h
  exact ev_fld m hσ h1 X.cl X.nAt rfl (.int _)
def spOver (K : PySem.W.Frag) (A : Ads) : Sp := fun vs H Q _ => ∃ S q ls l a, vs = [.ref q] ∧ Mem S H ∧ ScanAt K A S H q ls l a ∧ ∀ H', Ex H H' → Q (.bl (decide (l = ls.length))) H'
theorem pr_over (X : Sx A K) (vs : List V) (H : Hp) (Q : VK) (E : XK) (h : spOver K A vs H Q E) : t_Scan_is_over K A E { nx := fun _ H' => Q .non H', rt := Q } (start ["self"] vs) H := by
  obtain ⟨S, q, ls, l, a, rfl, m, hs, k⟩ := h
  refine ts_ret (K := K) (S := S) (d := .bl (decide (l = ls.length))) ((ev_op m (ev_line X m rfl hs) (ev_cb (ea_cons m (ev_lines X m rfl hs) ea_nil) (ra_len rfl)) (r_eqD rfl rfl (Nat.zero_le _) (Nat.zero_le _))).is ?_) fun v H1 e1 r1 => ?_
  · rw [eqD_int]
    show D.bl (decide ((l : Int) = (lenD (linesD ls) : Nat))) = D.bl (decide (l = ls.length))
    have : lenD (linesD ls) = ls.length := by show (ls.map _).length = _; rw [List.length_map]
    rw [this, decide_eq_decide.mpr Int.ofNat_inj]
  · cases r1; exact k H1 e1
theorem ev_over {i : Nat} (m : Mem S H) (hσ : σ[i]? = some (some (.ref q))) (h : ScanAt K A S H q ls l a) : EvD K S (tMeth A.cScan "is_over" (spOver K A) [] E0 (tVar i) tNil) σ H (.bl (decide (l = ls.length))) := fun H1 e Q k => by
  obtain ⟨s, dx, vl, h1, h2⟩ := id (h.ex m e)
  exact ⟨.ref q, hσ, q, dx, _, rfl, h1, rfl, S, q, ls, l, a, rfl, m.ex e, h.ex m e, fun H2 e2 => k _ H2 e2 (.bl _)⟩
def spAhead (K : PySem.W.Frag) (A : Ads) : Sp := fun vs H Q _ => ∃ S q ls l a, vs = [.ref q] ∧ Mem S H ∧ ScanAt K A S H q ls l a ∧ Plc ls l a ∧ ∀ H', Ex H H' → Q (wv (aheadO ls l a)) H'
theorem line_get (hl : l < ls.length) : (ls.map fun ws => D.lst (ws.map D.str))[l]? = some (.lst ((ls.getD l []).map D.str)) := by
  rw [List.getElem?_map, List.getElem?_eq_getElem hl]
  simp [List.getD, hl]
theorem getD_mem (hl : l < ls.length) : ls.getD l [] ∈ ls := by
  simp only [List.getD, List.getElem?_eq_getElem hl, Option.getD_some]
  exact List.getElem_mem hl
theorem pr_ahead (X : Sx A K) (vs : List V) (H : Hp) (Q : VK) (E : XK) (h : spAhead K A vs H Q E) : t_Scan_ahead K A E (spOver K A) { nx := fun _ H' => Q .non H', rt := Q } (start ["self"] vs) H := by
  obtain ⟨S, q, ls, l, a, rfl, m, hs, P, k⟩ := h
  show t_Scan_ahead K A E (spOver K A) { nx := fun _ H' => Q .non H', rt := Q } [some (.ref q)] H
  have ov : EvB (tB (tMeth A.cScan "is_over" (spOver K A) [] E0 (tVar 0) tNil)) [some (.ref q)] H (decide (l = ls.length)) := eb_B (ev_over m rfl hs)
  by_cases hl : l = ls.length
  · refine ts_ifseq (b := true) ((eb_or (b := true) ov fun z => by rw [decide_eq_true hl] at z; cases z).is (by rw [decide_eq_true hl]; rfl)) fun H1 e1 => ?_
    rw [if_pos rfl]
    refine ts_ret (K := K) (S := S) ev_non fun v H2 e2 r2 => ?_
    cases r2
    have : aheadO ls l a = none := if_pos hl
    rw [this] at k
    exact k H2 (e1.trans e2)
  · have hlt : l < ls.length := Nat.lt_of_le_of_ne P.lok hl
    have ln : EvD K S (tOp (rIx K) (tFld K (tVar 0) "lines") (tFld K (tVar 0) "line")) [some (.ref q)] H (.lst ((ls.getD l []).map D.str)) := ev_op m (ev_lines X m rfl hs) (ev_line X m rfl hs) (r_ixL (line_get hlt))
    have hat : EvB (tTest (tOp (rEqD K) (tFld K (tVar 0) "at") (tCB (rLenV K) (tCons (tOp (rIx K) (tFld K (tVar 0) "lines") (tFld K (tVar 0) "line")) tNil)))) [some (.ref q)] H (decide (a = (ls.getD l []).length)) := by
      refine (eb_T (ev_op m (ev_at X m rfl hs) (ev_cb (ea_cons m ln ea_nil) (ra_len rfl)) (r_eqD rfl rfl (Nat.zero_le _) (Nat.zero_le _)))).is ?_
      rw [eqD_int]
      show decide ((a : Int) = (((ls.getD l []).map D.str).length : Nat)) = _
      rw [List.length_map, decide_eq_decide.mpr Int.ofNat_inj]
    have ah : aheadO ls l a = (ls.getD l [])[a]? := if_neg hl
    refine ts_ifseq (b := decide (a = (ls.getD l []).length)) ((eb_or ov fun _ => hat).is (by rw [decide_eq_false hl, Bool.false_or])) fun H1 e1 => ?_
    by_cases ha : a = (ls.getD l []).length
    · rw [decide_eq_true ha, if_pos rfl]
      refine ts_ret (K := K) (S := S) ev_non fun v H2 e2 r2 => ?_
      cases r2
      have : aheadO ls l a = none := by rw [ah]; exact List.getElem?_eq_none (by omega)
      rw [this] at k
      exact k H2 (e1.trans e2)
    · rw [decide_eq_false ha, if_neg Bool.false_ne_true]
      have hat2 : a < (ls.getD l []).length := by have := P.aok hlt; omega
      obtain ⟨w, hw⟩ : ∃ w, (ls.getD l [])[a]? = some w := ⟨_, List.getElem?_eq_getElem hat2⟩
      refine ts_ret ((ev_op m ln (ev_at X m rfl hs) (r_ixL (d := .str w) (by rw [List.getElem?_map, hw]; rfl))).mono e1) fun v H2 e2 r2 => ?_
      cases r2
      rw [ah, hw] at k
      exact k H2 (e1.trans e2)
theorem ev_ahead {i : Nat} (m : Mem S H) (hσ : σ[i]? = some (some (.ref q))) (h : ScanAt K A S H q ls l a) (P : Plc ls l a) : EvD K S (tMeth A.cScan "ahead" (spAhead K A) [] E0 (tVar i) tNil) σ H (wD (aheadO ls l a)) := fun H1 e Q k => by
  obtain ⟨s, dx, vl, h1, h2⟩ := id (h.ex m e)
  refine ⟨.ref q, hσ, q, dx, _, rfl, h1, rfl, S, q, ls, l, a, rfl, m.ex e, h.ex m e, P, fun H2 e2 => k _ H2 e2 ?_⟩
  cases aheadO ls l a with
  | none => exact .non
  | some w => exact .str w
def spStop (K : PySem.W.Frag) (A : Ads) : Sp := fun vs H _ E => ∃ S q ls l a, vs = [.ref q] ∧ Mem S H ∧ ScanAt K A S H q ls l a ∧ Plc ls l a ∧ Stops A H l a E
theorem pr_stop (X : Sx A K) (vs : List V) (H : Hp) (Q : VK) (E : XK) (h : spStop K A vs H Q E) : t_Scan_stop K A E { nx := fun _ H' => Q .non H', rt := Q } (start ["self"] vs) H := by
  obtain ⟨S, q, ls, l, a, rfl, m, hs, P, k⟩ := h
  have P1 := P.lok
  have P2 := P.many
  have P3 := P.aa
  refine ts_raise (is := [(l : Int), (a : Int)]) (ea_cons m (ev_line X m rfl hs) (ea_cons m (ev_at X m rfl hs) ea_nil)) rfl (fun i hi => ?_) fun p H' e hp h' => k p H' e hp h'
  have : i = (l : Int) ∨ i = (a : Int) := by simpa using hi
  rcases this with rfl | rfl <;> exact small_nat (by omega)
theorem td_stop {i : Nat} {r : TS} {D0 : Ends} (m : Mem S H) (hσ : σ[i]? = some (some (.ref q))) (h : ScanAt K A S H q ls l a) (P : Plc ls l a) (k : Stops A H l a E) : tDrop (tMeth A.cScan "stop" (spStop K A) [] E (tVar i) tNil) D0 σ H := by
  obtain ⟨s, dx, vl, h1, h2⟩ := id h
  exact ⟨.ref q, hσ, q, dx, _, rfl, h1, rfl, S, q, ls, l, a, rfl, m, h, P, k⟩
theorem scan_put {vl : V} {dx : Addr} (m : Mem S H) (hq : S q) (r : Rp K S H vl (linesD ls)) (l a : Nat) : ScanAt K A S (upd H q (.ins A.cScan dx (scanF vl l a))) q ls l a := ⟨hq, dx, vl, upd_same, r.mono (ExS.put m hq)⟩
theorem ex1_put {o : HO} : Ex1 q H (upd H q o) := fun b u n h => by rw [upd_ne n]; exact h
theorem ts_at {i : Nat} {r : TS} {D0 : Ends} (X : Sx A K) (m : Mem S H) (hσ : σ[i]? = some (some (.ref q))) (h : ScanAt K A S H q ls l a) (k : ∀ H', Ex1 q H H' → Mem S H' → ScanAt K A S H' q ls l (a + 1) → r D0 σ H') : tSeq (sFldAug K (tVar i) (tC (.int 1)) rAdd "at") r D0 σ H := by
  obtain ⟨s, dx, vl, h1, h2⟩ := id h
  have e : putF "at" (.int ((a : Int) + 1)) (scanF vl l a) = scanF vl l (a + 1) := by
    show putF "at" _ [("lines", vl), ("line", .int l), ("at", .int a)] = _
    rfl
  refine ⟨.ref q, hσ, q, A.cScan, dx, _, .int a, rfl, h1, X.cl, X.nAt, rfl, a, 1, rfl, rfl, dx, _, h1, by show 3 < 1000; decide, ?_⟩
  show r D0 σ (upd H q (.ins A.cScan dx (putF "at" (.int ((a : Int) + 1)) (scanF vl l a))))
  rw [e]
  exact k _ ex1_put (ExS.put m s).mem (scan_put m s h2 l (a + 1))
def spTakeOf (K : PySem.W.Frag) (A : Ads) : Sp := fun vs H Q E => ∃ S q ls l a vw ws, vs = [.ref q, vw] ∧ Mem S H ∧ ScanAt K A S H q ls l a ∧ Plc ls l a ∧ (Rp K S H vw (.lst (List.map D.str ws)) ∨ Rp K S H vw (.tup (List.map D.str ws))) ∧
  match aheadO ls l a with
  | some w => if w ∈ ws then (∀ H', Ex1 q H H' → ScanAt K A S H' q ls l (a + 1) → Q (.str w) H') else Stops A H l a E
  | none => Stops A H l a E
theorem pr_takeof (X : Sx A K) (vs : List V) (H : Hp) (Q : VK) (E : XK) (h : spTakeOf K A vs H Q E) : t_Scan_take_of K A E (spAhead K A) (spStop K A) { nx := fun _ H' => Q .non H', rt := Q } (start ["self", "words", "word"] vs) H := by
  obtain ⟨S, q, ls, l, a, vw, ws, rfl, m, hs, P, hw, k⟩ := h
  show t_Scan_take_of K A E (spAhead K A) (spStop K A) { nx := fun _ H' => Q .non H', rt := Q } [some (.ref q), some vw, none] H
  refine ts_set (ev_ahead m rfl hs P) fun u H1 e1 ru => ?_
  have m1 := m.ex e1
  have hs1 := hs.ex m e1
  have isn : EvB (tTest (tOp rIsN (tVar 2) (tC .non))) [some (.ref q), some vw, some u] H1 (wD (aheadO ls l a)).isNon := eb_T (ev_op m1 (ev_var (i := 2) m1 rfl ru) ev_non r_isN)
  cases ha : aheadO ls l a with
  | none =>
    rw [ha] at k isn
    refine ts_ifseq (b := true) ((eb_or (b := true) isn fun z => by cases z).is rfl) fun H2 e2 => ?_
    rw [if_pos rfl]
    exact td_stop (r := tNext) (m1.ex e2) rfl (hs1.ex m1 e2) P (Stops.mono k (e1.trans e2))
  | some w =>
    rw [ha] at k isn ru
    have hin : EvB (tTest (tOp (rIn K true) (tVar 2) (tVar 1))) [some (.ref q), some vw, some u] H1 (!decide (w ∈ ws)) := by
      rcases hw with hw | hw
      · exact eb_T (ev_op m1 (ev_var (i := 2) m1 rfl ru) (ev_var (i := 1) m1 rfl (hw.mono (.of m e1))) r_inL)
      · exact eb_T (ev_op m1 (ev_var (i := 2) m1 rfl ru) (ev_var (i := 1) m1 rfl (hw.mono (.of m e1))) r_inT)
    refine ts_ifseq (b := !decide (w ∈ ws)) ((eb_or isn fun _ => hin).is rfl) fun H2 e2 => ?_
    have m2 := m1.ex e2
    have hs2 := hs1.ex m1 e2
    by_cases hm : w ∈ ws
    · replace k : ∀ H', Ex1 q H H' → ScanAt K A S H' q ls l (a + 1) → Q (.str w) H' := by
        have k' : (if w ∈ ws then (∀ H', Ex1 q H H' → ScanAt K A S H' q ls l (a + 1) → Q (.str w) H') else Stops A H l a E) := k
        rwa [if_pos hm] at k'
      rw [decide_eq_true hm, if_neg (by decide)]
      refine ts_at (i := 0) X m2 rfl hs2 fun H3 e3 m3 hs3 => ?_
      cases ru
      exact ⟨_, rfl, k H3 (((Ex.ex1 e1).trans (Ex.ex1 e2)).trans e3) hs3⟩
    · replace k : Stops A H l a E := by
        have k' : (if w ∈ ws then (∀ H', Ex1 q H H' → ScanAt K A S H' q ls l (a + 1) → Q (.str w) H') else Stops A H l a E) := k
        rwa [if_neg hm] at k'
      rw [decide_eq_false hm, if_pos (by decide)]
      exact td_stop (r := tNext) m2 rfl hs2 P (k.mono (e1.trans e2))
def spTakeNum (K : PySem.W.Frag) (A : Ads) : Sp := fun vs H Q E => ∃ S q ls l a lo hi, vs = [.ref q, .int lo, .int hi] ∧ Mem S H ∧ ScanAt K A S H q ls l a ∧ Plc ls l a ∧
  match aheadO ls l a with
  | some w => if figB w lo hi = true then (∀ H', Ex1 q H H' → ScanAt K A S H' q ls l (a + 1) → Q (.int (num w)) H') else Stops A H l a E
  | none => Stops A H l a E
theorem ahead_wd (P : Plc ls l a) {w : Str} (h : aheadO ls l a = some w) : wdB w = true := by
  unfold aheadO at h
  by_cases hl : l = ls.length
  · rw [if_pos hl] at h; cases h
  · rw [if_neg hl] at h
    have hlt : l < ls.length := Nat.lt_of_le_of_ne P.lok hl
    exact (P.each _ (getD_mem hlt)).2 w (List.mem_of_getElem? h)
theorem fig_num {w : Str} {lo hi : Int} (hw : wdB w = true) (h : figB w lo hi = true) : PySem.intText? w = some (num w) ∧ w.length ≤ 100 := by
  have hw' : (PyData.strOk w && decide (w.length ≤ 100) && (!digits w || (decide (w.length = 0) || (PySem.intText? w).isSome))) = true := hw
  simp only [Bool.and_eq_true, Bool.or_eq_true, Bool.not_eq_true', decide_eq_true_eq] at hw'
  obtain ⟨⟨_, hl⟩, hn⟩ := hw'
  refine ⟨?_, hl⟩
  unfold figB at h
  by_cases hc : (!(decide ((1 : Int) ≤ w.length) && decide ((w.length : Int) ≤ 9)) || !digits w) = true
  · rw [if_pos hc] at h; cases h
  · have hc' : (decide ((1 : Int) ≤ w.length) && decide ((w.length : Int) ≤ 9)) = true ∧ digits w = true := by
      have := Bool.not_eq_true _ ▸ hc
      rw [Bool.or_eq_false_iff] at this
      exact ⟨by simpa using this.1, by simpa using this.2⟩
    have h1 : 1 ≤ w.length := by
      have := hc'.1
      simp only [Bool.and_eq_true, decide_eq_true_eq] at this
      omega
    rcases hn with z | z | z
    · rw [hc'.2] at z; cases z
    · omega
    · obtain ⟨n, hn⟩ := Option.isSome_iff_exists.mp z
      unfold num
      rw [hn]; rfl
theorem pr_takenum (X : Sx A K) (vs : List V) (H : Hp) (Q : VK) (E : XK) (h : spTakeNum K A vs H Q E) : t_Scan_take_number K A E (spAhead K A) (spFigure K) (spStop K A) { nx := fun _ H' => Q .non H', rt := Q } (start ["self", "least", "most", "word"] vs) H := by
  obtain ⟨S, q, ls, l, a, lo, hi, rfl, m, hs, P, k⟩ := h
  show t_Scan_take_number K A E (spAhead K A) (spFigure K) (spStop K A) { nx := fun _ H' => Q .non H', rt := Q } [some (.ref q), some (.int lo), some (.int hi), none] H
  refine ts_set (ev_ahead m rfl hs P) fun u H1 e1 ru => ?_
  have m1 := m.ex e1
  have hs1 := hs.ex m e1
  have wok : wordD (wD (aheadO ls l a)) = true := by
    cases ha : aheadO ls l a with
    | none => rfl
    | some w => exact ahead_wd P ha
  have hfig : EvB (tB (tCall (spFigure K) [] E0 (tCons (tVar 3) (tCons (tVar 1) (tCons (tVar 2) tNil))))) [some (.ref q), some (.int lo), some (.int hi), some u] H1 (figD (wD (aheadO ls l a)) lo hi) :=
    eb_B (ev_pure m1 (ea_cons m1 (ev_var (i := 3) m1 rfl ru) (ea_cons m1 (ev_var (i := 1) m1 rfl (.int lo)) (ea_cons m1 (ev_var (i := 2) m1 rfl (.int hi)) ea_nil))) rfl ⟨_, _, _, rfl, wok, rfl, rfl⟩)
  refine ts_ifseq (eb_not hfig) fun H2 e2 => ?_
  have m2 := m1.ex e2
  have hs2 := hs1.ex m1 e2
  cases ha : aheadO ls l a with
  | none =>
    rw [ha] at k
    rw [if_pos (by rfl)]
    exact td_stop (r := tNext) m2 rfl hs2 P (Stops.mono k (e1.trans e2))
  | some w =>
    rw [ha] at k ru
    show (if (!figB w lo hi) = true then _ else _)
    replace k : (if figB w lo hi = true then (∀ H', Ex1 q H H' → ScanAt K A S H' q ls l (a + 1) → Q (.int (num w)) H') else Stops A H l a E) := k
    by_cases hf : figB w lo hi = true
    · rw [if_pos hf] at k
      rw [hf, if_neg (by decide)]
      refine ts_at (i := 0) X m2 rfl hs2 fun H3 e3 m3 hs3 => ?_
      cases ru
      obtain ⟨hn, hl⟩ := fig_num (ahead_wd P ha) hf
      exact ⟨_, rfl, w, num w, rfl, hn, by omega, k H3 (((Ex.ex1 e1).trans (Ex.ex1 e2)).trans e3) hs3⟩
    · rw [if_neg hf] at k
      rw [show figB w lo hi = false by simpa using hf, if_pos (by decide)]
      exact td_stop (r := tNext) m2 rfl hs2 P (k.mono (e1.trans e2))
def spEndLine (K : PySem.W.Frag) (A : Ads) : Sp := fun vs H Q E => ∃ S q ls l a, vs = [.ref q] ∧ Mem S H ∧ ScanAt K A S H q ls l a ∧ Plc ls l a ∧
  if (aheadO ls l a).isSome = true ∨ l = ls.length then Stops A H l a E else ∀ H', Ex1 q H H' → ScanAt K A S H' q ls (l + 1) 0 → Q .non H'
theorem pr_endline (X : Sx A K) (vs : List V) (H : Hp) (Q : VK) (E : XK) (h : spEndLine K A vs H Q E) : t_Scan_end_line K A E (spAhead K A) (spOver K A) (spStop K A) { nx := fun _ H' => Q .non H', rt := Q } (start ["self"] vs) H := by
  obtain ⟨S, q, ls, l, a, rfl, m, hs, P, k⟩ := h
  show t_Scan_end_line K A E (spAhead K A) (spOver K A) (spStop K A) { nx := fun _ H' => Q .non H', rt := Q } [some (.ref q)] H
  have isn : EvB (tTest (tOp rNotN (tMeth A.cScan "ahead" (spAhead K A) [] E0 (tVar 0) tNil) (tC .non))) [some (.ref q)] H (aheadO ls l a).isSome := by
    refine (eb_T (ev_op m (ev_ahead m rfl hs P) ev_non r_notN)).is ?_
    cases aheadO ls l a <;> rfl
  have ov : EvB (tB (tMeth A.cScan "is_over" (spOver K A) [] E0 (tVar 0) tNil)) [some (.ref q)] H (decide (l = ls.length)) := eb_B (ev_over m rfl hs)
  refine ts_ifseq (eb_or isn fun _ => ov) fun H1 e1 => ?_
  have m1 := m.ex e1
  have hs1 := hs.ex m e1
  by_cases hc : (aheadO ls l a).isSome = true ∨ l = ls.length
  · rw [if_pos hc] at k
    rw [if_pos (by rcases hc with h | h; rw [h]; rfl; rw [decide_eq_true h, Bool.or_true])]
    exact td_stop (r := tNext) m1 rfl hs1 P (k.mono e1)
  · rw [if_neg hc] at k
    have h1 : (aheadO ls l a).isSome = false := by
      cases z : (aheadO ls l a).isSome with
      | false => rfl
      | true => exact absurd (.inl z) hc
    rw [if_neg (by rw [h1, decide_eq_false fun z => hc (.inr z)]; exact Bool.false_ne_true)]
    obtain ⟨s, dx, vl, g1, g2⟩ := id hs1
    refine ⟨.ref q, rfl, q, A.cScan, dx, _, .int l, rfl, g1, X.cl, X.nLine, rfl, l, 1, rfl, rfl, dx, _, g1, by show 3 < 1000; decide, ?_⟩
    refine ⟨.ref q, rfl, q, A.cScan, dx, _, rfl, upd_same, X.cl, X.nAt, by show 3 < 1000; decide, ?_⟩
    have e : putF "at" (.int 0) (putF "line" (.int ((l : Int) + 1)) (scanF vl l a)) = scanF vl (l + 1) 0 := rfl
    show Q .non _
    rw [e]
    have x2 : Ex1 q H1 (upd (upd H1 q (.ins A.cScan dx (putF "line" (.int ((l : Int) + 1)) (scanF vl l a)))) q (.ins A.cScan dx (scanF vl (l + 1) 0))) := ex1_put.trans ex1_put
    have m2 : Mem S (upd H1 q (.ins A.cScan dx (putF "line" (.int ((l : Int) + 1)) (scanF vl l a)))) := (ExS.put m1 s).mem
    exact k _ ((Ex.ex1 e1).trans x2) (scan_put m2 s (g2.mono (ExS.put m1 s)) (l + 1) 0)
end

section
variable {K : PySem.W.Frag} {A : Ads} {S : Addr → Prop} {σ : L2.St} {H H' : Hp} {E : XK} {q : Addr} {ls : List (List Str)} {l a : Nat}
def spInit (K : PySem.W.Frag) (A : Ads) : Sp := fun vs H Q _ => ∃ S x dx vl ls, vs = [.ref x, vl] ∧ Mem S H ∧ S x ∧ H x = some (.ins A.cScan dx []) ∧ Rp K S H vl (linesD ls) ∧ ∀ H', Ex1 x H H' → ScanAt K A S H' x ls 0 0 → Q .non H'
theorem pr_init (X : Sx A K) (vs : List V) (H : Hp) (Q : VK) (E : XK) (h : spInit K A vs H Q E) : t_Scan___init__ K A E { nx := fun _ H' => Q .non H', rt := Q } (start ["self", "lines"] vs) H := by
  obtain ⟨S, x, dx, vl, ls, rfl, m, sx, hx, r, k⟩ := h
  have e : putF "at" (.int 0) (putF "line" (.int 0) (putF "lines" vl [])) = scanF vl 0 0 := rfl
  refine ⟨vl, rfl, .ref x, rfl, x, A.cScan, dx, [], rfl, hx, X.cl, X.nLines, by decide, ?_⟩
  refine ⟨.ref x, rfl, x, A.cScan, dx, _, rfl, upd_same, X.cl, X.nLine, by show 1 < 1000; decide, ?_⟩
  refine ⟨.ref x, rfl, x, A.cScan, dx, _, rfl, upd_same, X.cl, X.nAt, by show 2 < 1000; decide, ?_⟩
  show Q .non _
  rw [e]
  have m1 := (ExS.put (o := .ins A.cScan dx (putF "lines" vl [])) m sx)
  have m2 := (ExS.put (o := .ins A.cScan dx (putF "line" (.int 0) (putF "lines" vl []))) m1.mem sx)
  exact k _ ((ex1_put.trans ex1_put).trans ex1_put) (scan_put m2.mem sx ((r.mono m1).mono m2) 0 0)
def linesOf (t : Str) : List (List Str) := (Txt.split t "\n").map fun l => Txt.split l " "
structure TxtOk (t : Str) : Prop where
  ok : PyData.strOk t = true
  len : t.length ≤ 1000000
  many : (Txt.split t "\n").length ≤ 1000
  short : ∀ l ∈ Txt.split t "\n", l.length ≤ 1000000
  each : ∀ ws ∈ linesOf t, ws.length ≤ 1000 ∧ ∀ w ∈ ws, wdB w = true
def textIn : D → Prop
  | .str t => TxtOk t
  | .ins _ => False
  | _ => True
def spScanOf (K : PySem.W.Frag) (A : Ads) : Sp := fun vs H Q E => ∃ S v d, vs = [v] ∧ Mem S H ∧ Rp K S H v d ∧ textIn d ∧
  match d with
  | .str t => ∀ q H', Ex H H' → H q = none → Mem (plus S q) H' → ScanAt K A (plus S q) H' q (linesOf t) 0 0 → Q (.ref q) H'
  | _ => Stops A H 0 0 E
theorem tn_ret {te : TE} {D0 : Ends} (h : te σ H D0.rt) : tNext { D0 with nx := tRet te D0 } σ H := h
theorem mk_one {C : Addr} {sp : Sp} {te : TE} {Q : VK} (h : te σ H fun v H1 => ∀ x dx, H1 x = none → H1 dx = none → dx ≠ x → sp [.ref x, v] (upd (upd H1 dx (.own x)) x (.ins C dx [])) (fun v H2 => v = .non ∧ Q (.ref x) H2) E) : tMake C sp [] E (tCons te tNil) σ H Q := h
theorem pr_scanof (X : Sx A K) (vs : List V) (H : Hp) (Q : VK) (E : XK) (h : spScanOf K A vs H Q E) : t_scan_of K A E (spInit K A) { nx := fun _ H' => Q .non H', rt := Q } (start ["text", "line"] vs) H := by
  obtain ⟨S, v, d, rfl, m, r, hin, k⟩ := h
  show t_scan_of K A E (spInit K A) { nx := fun _ H' => Q .non H', rt := Q } [some v, none] H
  have hb : d.base = true := by cases d <;> first | rfl | exact hin.elim
  have hs : EvB (tB (tCB (rIsi K) (tCons (tVar 0) (tCons (tC (.ty "str")) tNil)))) [some v, none] H d.isStr := eb_B (r_isi (ev_var m rfl r) (okT_base hb) (ki_str hb))
  refine ts_ifseq (eb_not hs) fun H1 e1 => ?_
  have m1 := m.ex e1
  by_cases hd : ∃ t, d = .str t
  · obtain ⟨t, rfl⟩ := hd
    have T : TxtOk t := hin
    rw [if_neg (by show ¬ (!true) = true; decide)]
    have h1 : EvD K S (tM1 rSplit (tVar 0) (tC (.str "\n"))) [some v, none] H1 (.lst ((Txt.split t "\n").map D.str)) := ev_split m1 (ev_var m1 rfl (r.mono (.of m e1))) ev_str (by decide +kernel) (by have := T.len; omega)
    have hlc := ev_map (i := 1) (te := tM1 rSplit (tVar 1) (tC (.str " "))) (f := fun d => match d with | .str x => .lst ((Txt.split x " ").map D.str) | _ => .non) m1 (ei_seq m1 h1 rfl) (by show ((Txt.split t "\n").map D.str).length ≤ _; rw [List.length_map]; have := T.many; omega) fun S' H' m' up ex x d hd rx => by
      obtain ⟨w, hw, rfl⟩ := List.mem_map.mp (show d ∈ (Txt.split t "\n").map D.str from hd)
      refine ⟨rfl, ?_⟩
      exact ev_split m' (ev_var m' rfl rx) ev_str (by decide +kernel) (by have := T.short w hw; omega)
    have e : (items (.lst ((Txt.split t "\n").map D.str))).map (fun d => match d with | .str x => D.lst ((Txt.split x " ").map D.str) | _ => .non) = (linesOf t).map fun ws => .lst (ws.map D.str) := by
      show ((Txt.split t "\n").map D.str).map _ = ((Txt.split t "\n").map _).map _
      rw [List.map_map, List.map_map]
      rfl
    rw [e] at hlc
    refine tn_ret (mk_one ?_)
    refine hlc H1 (Evl.Ex.refl _) _ fun vl H2 e2 rl => ?_
    intro x dx hx hdx hne
    have m2 := m1.ex e2
    have exA : Ex H2 (upd (upd H2 dx (.own x)) x (.ins A.cScan dx [])) := (Evl.Ex.new hdx).trans (Evl.Ex.new (by rw [upd_ne (Ne.symm hne)]; exact hx))
    have m3 : Mem (plus S x) (upd (upd H2 dx (.own x)) x (.ins A.cScan dx [])) := fun b s => by
      rcases s with s | s
      · obtain ⟨o, h⟩ := m2 b s
        exact ⟨o, exA _ _ h⟩
      · exact ⟨_, by rw [s]; exact upd_same⟩
    have rl' : Rp K (plus S x) (upd (upd H2 dx (.own x)) x (.ins A.cScan dx [])) vl (linesD (linesOf t)) := (rl.plus hx).mono ⟨fun a o n h => exA _ _ h, m3⟩
    refine ⟨plus S x, x, dx, vl, linesOf t, rfl, m3, .inr rfl, upd_same, rl', fun H3 e3 hs3 => ⟨rfl, ?_⟩⟩
    have hHx : H x = none := by
      cases z : H x with
      | none => rfl
      | some o => rw [e2 _ _ (e1 _ _ z)] at hx; cases hx
    refine k x H3 (fun b o hb => ?_) hHx ?_ hs3
    · have nb : b ≠ x := fun z => by rw [z, hHx] at hb; cases hb
      exact e3 b o nb (exA _ _ (e2 _ _ (e1 _ _ hb)))
    · obtain ⟨_, dx', vl', g1, _⟩ := id hs3
      exact (Ex1.exS m3 (.inr rfl) e3 ⟨_, g1⟩).mem
  · have hf : d.isStr = false := by cases d <;> first | rfl | exact absurd ⟨_, rfl⟩ hd
    rw [hf, if_pos (by decide)]
    have k' : Stops A H 0 0 E := by cases d <;> first | exact k | exact absurd ⟨_, rfl⟩ hd
    exact ts_raise (K := K) (S := S) (is := [0, 0]) (ea_cons m1 ev_int (ea_cons m1 ev_int ea_nil)) rfl (fun i hi => by
      have : i = 0 := by simpa using hi
      rw [this]; decide) fun p H2 e2 hp h2 => (k'.mono e1) p H2 e2 hp h2
theorem cx_takeof {i : Nat} {ta : TA} {ws : List Str} {Q : VK} (m : Mem S H) (hσ : σ[i]? = some (some (.ref q))) (hs : ScanAt K A S H q ls l a) (P : Plc ls l a)
    (ha : EvA K S ta σ H [.lst (ws.map D.str)] ∨ EvA K S ta σ H [.tup (ws.map D.str)])
    (k : match aheadO ls l a with
      | some w => if w ∈ ws then (∀ H', Ex1 q H H' → Mem S H' → ScanAt K A S H' q ls l (a + 1) → Q (.str w) H') else Stops A H l a E
      | none => Stops A H l a E) : tMeth A.cScan "take_of" (spTakeOf K A) [] E (tVar i) ta σ H Q := by
  obtain ⟨s, dx, vl, h1, h2⟩ := id hs
  have fin : ∀ vw H1, Ex H H1 → (Rp K S H1 vw (.lst (ws.map D.str)) ∨ Rp K S H1 vw (.tup (ws.map D.str))) → spTakeOf K A [.ref q, vw] H1 Q E := fun vw H1 e1 r => by
    refine ⟨S, q, ls, l, a, vw, ws, rfl, m.ex e1, hs.ex m e1, P, r, ?_⟩
    cases hah : aheadO ls l a with
    | none => rw [hah] at k; exact Stops.mono k e1
    | some w =>
      rw [hah] at k
      replace k : (if w ∈ ws then (∀ H', Ex1 q H H' → Mem S H' → ScanAt K A S H' q ls l (a + 1) → Q (.str w) H') else Stops A H l a E) := k
      show (if w ∈ ws then (∀ H', Ex1 q H1 H' → ScanAt K A S H' q ls l (a + 1) → Q (.str w) H') else Stops A H1 l a E)
      by_cases hm : w ∈ ws
      · rw [if_pos hm] at k ⊢
        intro H2 e2 h2
        obtain ⟨_, dx', vl', g1, _⟩ := id h2
        exact k H2 ((Ex.ex1 e1).trans e2) (Ex1.exS (m.ex e1) s e2 ⟨_, g1⟩).mem h2
      · rw [if_neg hm] at k ⊢
        exact k.mono e1
  refine ⟨.ref q, hσ, q, dx, _, rfl, h1, rfl, ?_⟩
  rcases ha with ha | ha
  · refine ha H (Evl.Ex.refl _) _ fun vs H1 e1 r1 => ?_
    obtain ⟨vw, rfl, r⟩ := r1.one
    exact fin vw H1 e1 (.inl r)
  · refine ha H (Evl.Ex.refl _) _ fun vs H1 e1 r1 => ?_
    obtain ⟨vw, rfl, r⟩ := r1.one
    exact fin vw H1 e1 (.inr r)
theorem cx_takenum {i : Nat} {ta : TA} {lo hi : Int} {Q : VK} (m : Mem S H) (hσ : σ[i]? = some (some (.ref q))) (hs : ScanAt K A S H q ls l a) (P : Plc ls l a) (ha : EvA K S ta σ H [.int lo, .int hi])
    (k : match aheadO ls l a with
      | some w => if figB w lo hi = true then (∀ H', Ex1 q H H' → Mem S H' → ScanAt K A S H' q ls l (a + 1) → Q (.int (num w)) H') else Stops A H l a E
      | none => Stops A H l a E) : tMeth A.cScan "take_number" (spTakeNum K A) [] E (tVar i) ta σ H Q := by
  obtain ⟨s, dx, vl, h1, h2⟩ := id hs
  refine ⟨.ref q, hσ, q, dx, _, rfl, h1, rfl, ha H (Evl.Ex.refl _) _ fun vs H1 e1 r1 => ?_⟩
  obtain ⟨x, y, rfl, rx, ry⟩ := r1.two
  cases rx; cases ry
  refine ⟨S, q, ls, l, a, lo, hi, rfl, m.ex e1, hs.ex m e1, P, ?_⟩
  cases hah : aheadO ls l a with
  | none => rw [hah] at k; exact Stops.mono k e1
  | some w =>
    rw [hah] at k
    replace k : (if figB w lo hi = true then (∀ H', Ex1 q H H' → Mem S H' → ScanAt K A S H' q ls l (a + 1) → Q (.int (num w)) H') else Stops A H l a E) := k
    show (if figB w lo hi = true then (∀ H', Ex1 q H1 H' → ScanAt K A S H' q ls l (a + 1) → Q (.int (num w)) H') else Stops A H1 l a E)
    by_cases hm : figB w lo hi = true
    · rw [if_pos hm] at k ⊢
      intro H2 e2 h2
      obtain ⟨_, dx', vl', g1, _⟩ := id h2
      exact k H2 ((Ex.ex1 e1).trans e2) (Ex1.exS (m.ex e1) s e2 ⟨_, g1⟩).mem h2
    · rw [if_neg hm] at k ⊢
      exact k.mono e1
theorem ev_ixM {i j : Nat} {p : Addr} {vs : List V} {ds : List D} {d : D} (m : Mem S H) (hσ : σ[i]? = some (some (.ref p))) (hp : H p = some (.lst vs)) (r : RpA K S H vs ds) (hj : ds[j]? = some d) : EvD K S (tOp (rIx K) (tVar i) (tC (.int j))) σ H d := fun H1 e Q k => by
  obtain ⟨v, hv, rv⟩ := r.get hj
  exact ⟨.ref p, hσ, .inl ⟨p, vs, j, v, rfl, rfl, .inl (.inl (e _ _ hp)), atI_nat hv, k v H1 (Evl.Ex.refl _) (rv.mono (.of m e))⟩⟩
theorem ev_lenM {i : Nat} {p : Addr} {vs : List V} {ds : List D} (m : Mem S H) (hσ : σ[i]? = some (some (.ref p))) (hp : H p = some (.lst vs)) (r : RpA K S H vs ds) : EvD K S (tCB (rLenV K) (tCons (tVar i) tNil)) σ H (.int ds.length) := fun H1 e Q k =>
  ⟨.ref p, hσ, .ref p, ds.length, rfl, .inl ⟨vs, .inl (.inl (e _ _ hp)), r.length.symm⟩, k _ H1 (Evl.Ex.refl _) (.int _)⟩
theorem ts_append {i : Nat} {p : Addr} {vs : List V} {te : TE} {D0 : Ends} (hσ : σ[i]? = some (some (.ref p))) (hp : H p = some (.lst vs))
    (k : te σ H fun x H1 => rAppend (.ref p) [x] H1 fun _ H2 => D0.nx σ H2) : tDrop (tBM K "list" rAppend (tVar i) (tCons te tNil)) D0 σ H := ⟨.ref p, hσ, .inl ⟨rfl, vs, .inl (.inl hp)⟩, k⟩
end

end Nv
set_option Elab.async false
set_option linter.all false
set_option maxRecDepth 100000
set_option maxHeartbeats 4000000
/-! Own declarations of k94, for k91. -/
namespace Nv
open PySem PySem.Spec PyProof.Rows L2 StX NvZ
theorem fig_range {w : Str} {lo hi : Int} (h : figB w lo hi = true) : lo ≤ num w ∧ num w ≤ hi := by
  unfold figB at h
  split at h
  · cases h
  · simp only [Bool.and_eq_true, decide_eq_true_eq] at h
    exact h.2
theorem eqD_w (o : Option Str) (x : Str) : eqD (wD o) (.str x) = decide (o = some x) := by
  cases o with
  | none => rfl
  | some w =>
    show eqD (.str w) (.str x) = _
    rw [eqD_str]
    by_cases h : w = x
    · rw [decide_eq_true h, decide_eq_true (by rw [h])]
    · rw [decide_eq_false h, decide_eq_false (fun z => h (by injection z))]
def Stops1 (A : Ads) (q : Addr) (H : Hp) (l a : Nat) (E : XK) : Prop := ∀ p H', Ex1 q H H' → H p = none → H' p = some (.xd [("line", .int l), ("word", .int a)]) → E (.ref A.cBadText) (some p) H'
section
variable {K : PySem.W.Frag} {A : Ads} {S : Addr → Prop} {σ : L2.St} {H H' : Hp} {E : XK} {q : Addr} {ls : List (List Str)} {l a : Nat}
theorem Stops1.at (h : Stops1 A q H l a E) (e : Ex1 q H H') (hq : ∃ o, H' q = some o) : Stops A H' l a E := fun p H2 e2 hp h2 => h p H2 (e.trans (Ex.ex1 e2)) (by
  cases z : H p with
  | none => rfl
  | some o =>
    by_cases hpq : p = q
    · obtain ⟨u, hu⟩ := hq
      rw [hpq, hu] at hp; cases hp
    · rw [e _ _ hpq z] at hp; cases hp) h2
theorem ScanAt.there (h : ScanAt K A S H q ls l a) : ∃ o, H q = some o := by
  obtain ⟨_, dx, vl, g, _⟩ := h
  exact ⟨_, g⟩
theorem ScanAt.plus {p : Addr} (hp : H p = none) (h : ScanAt K A S H q ls l a) : ScanAt K A (plus S p) H q ls l a := by
  obtain ⟨s, dx, vl, g, r⟩ := h
  exact ⟨.inl s, dx, vl, g, r.plus hp⟩
theorem ahead_line (hl : l < ls.length) : aheadO ls l a = (ls.getD l [])[a]? := if_neg (Nat.ne_of_lt hl)
theorem ev_a1 {te : TE} {d : D} (h : EvD K S te σ H d) : EvA K S (tCons te tNil) σ H [d] := fun H1 e Q k => h H1 e _ fun v H2 e2 r2 => k _ H2 e2 (.cons r2 .nil)
theorem td_seq {te : TE} {r : TS} {D0 : Ends} (h : te σ H fun _ H1 => r D0 σ H1) : tSeq (tDrop te) r D0 σ H := h
theorem lst_one {te : TE} {Q : VK} (h : te σ H fun v H1 => 1 ≤ sizeLine ∧ ∀ p, H1 p = none → Q (.ref p) (upd H1 p (.lst [v]))) : tLst (tCons te tNil) σ H Q := h
end

section
variable {K : PySem.W.Frag} {A : Ads} {S : Addr → Prop} {σ : L2.St} {H H' : Hp} {E : XK} {q : Addr} {ls : List (List Str)} {l a : Nat}
theorem cx_endline {i : Nat} {Q : VK} (m : Mem S H) (hσ : σ[i]? = some (some (.ref q))) (hs : ScanAt K A S H q ls l a) (P : Plc ls l a)
    (k : if (aheadO ls l a).isSome = true ∨ l = ls.length then Stops A H l a E else ∀ H', Ex1 q H H' → ScanAt K A S H' q ls (l + 1) 0 → Q .non H') : tMeth A.cScan "end_line" (spEndLine K A) [] E (tVar i) tNil σ H Q := by
  obtain ⟨s, dx, vl, h1, h2⟩ := id hs
  exact ⟨.ref q, hσ, q, dx, _, rfl, h1, rfl, S, q, ls, l, a, rfl, m, hs, P, k⟩
theorem ts_whileseq {c : TT} {tb r : TS} {D0 : Ends} {n0 : Nat} (Pv : Nat → L2.St → Hp → Prop) (h0 : Pv n0 σ H)
    (h : ∀ n σ' H', Pv n σ' H' → ∃ b, EvB c σ' H' b ∧ ∀ H'', Ex H' H'' → if b = true then tb { D0 with nx := fun σ2 H2 => ∃ m, m < n ∧ Pv m σ2 H2, ct := fun σ2 H2 => ∃ m, m < n ∧ Pv m σ2 H2, bk := r D0 } σ' H'' else r D0 σ' H'') : tSeq (tWhile c tb) r D0 σ H :=
  ⟨Pv, ⟨n0, h0⟩, fun n σ' H' p => by
    obtain ⟨b, hb, k⟩ := h n σ' H' p
    refine hb H' (Evl.Ex.refl _) _ fun H'' e => ?_
    have k' := k H'' e
    cases b with
    | true => exact ⟨_, fun σ2 H2 z => z, k'⟩
    | false => exact k'⟩
theorem tn_par {i j : Nat} {ta : TA} {r : TS} {D0 : Ends} (h : ta σ H fun vs H1 => ∃ v w, vs = [v, w] ∧ r D0 ((σ.set i (some v)).set j (some w)) H1) : tNext { D0 with nx := tSeq (tPar i j ta) r D0 } σ H := h
theorem td_seq' {t : TS} {r : TS} {D0 : Ends} (h : t { D0 with nx := r D0 } σ H) : tSeq t r D0 σ H := h
theorem ts_append' {i : Nat} {p : Addr} {vs : List V} {te : TE} {D0 : Ends} (hσ : σ[i]? = some (some (.ref p))) (hp : H p = some (.lst vs))
    (k : te σ H fun x H1 => rAppend (.ref p) [x] H1 fun _ H2 => D0.nx σ H2) : tDrop (tBM K "list" rAppend (tVar i) (tCons te tNil)) D0 σ H := ts_append hσ hp k
end

def penK (ra : Addr) (a : Nat) (r : Int) : List (Key × V) := [(.inr "row", .ref ra), (.inr "at", .int a), (.inr "rest", .int r)]
def PenAt (K : PySem.W.Frag) (S : Addr → Prop) (H : Hp) (p : Addr) (n : Nat) : Prop :=
  S p ∧ ∃ ra ns a r, H p = some (.dK (penK ra a r)) ∧ Rp K S H (.ref ra) (.lst (List.map D.int ns)) ∧ ns.length ≤ 80 ∧ a ≤ n ∧ 0 ≤ r
section
variable {K : PySem.W.Frag} {A : Ads} {S : Addr → Prop} {σ : L2.St} {H H' : Hp} {E : XK} {p : Addr} {n : Nat}
theorem fmod_rng {i j : Int} (h : 0 < j) : 0 ≤ i.fmod j ∧ i.fmod j < j := by
  rw [Int.fmod_eq_emod_of_nonneg _ (by omega)]
  exact ⟨Int.emod_nonneg _ (by omega), Int.emod_lt_of_pos _ h⟩
theorem fdiv_nn {i j : Int} (hi : 0 ≤ i) (h : 0 < j) : 0 ≤ i.fdiv j := by
  rw [Int.fdiv_eq_ediv_of_nonneg _ (by omega)]
  exact Int.ediv_nonneg hi (by omega)
theorem r_mul {i j : Int} (h : CMul i j) : R2D K S rMulI H (.int i) (.int j) (.int (i * j)) := r_I h fun _ => .int _
theorem r_mod {i j : Int} (h : j ≠ 0) : R2D K S rModI H (.int i) (.int j) (.int (i.fmod j)) := r_I h fun _ => .int _
theorem r_div {i j : Int} (h : CDivN i j) : R2D K S rDivI H (.int i) (.int j) (.int (i.fdiv j)) := r_I h fun _ => .int _
theorem r_pow {i j : Int} (h : CPow i j) : R2D K S rPowI H (.int i) (.int j) (.int (i ^ j.toNat)) := r_I h fun _ => .int _
theorem ra_abs {i : Int} : RAD K S rAbs H [.int i] (.int (if i < 0 then -i else i)) := fun H1 _ vs r Q q => by
  obtain ⟨v, rfl, r1⟩ := r.one
  cases r1
  exact ⟨i, rfl, q _ _ (Evl.Ex.refl _) (.int _)⟩
theorem ev_dget {i : Nat} {k : Str} {kvs : List (Key × V)} {v : V} {d : D} (m : Mem S H) (hσ : σ[i]? = some (some (.ref p))) (hp : H p = some (.dK kvs)) (hv : valV kvs (.inr k) = some v) (r : Rp K S H v d) : EvD K S (tDGet (tVar i) (tC (.str k))) σ H d := fun H1 e Q q => by
  refine ⟨.ref p, hσ, p, v, rfl, ?_, q v H1 (Evl.Ex.refl _) (r.mono (.of m e))⟩
  have := DGet.k (k := Sum.inr k) (e _ _ hp)
  rwa [hv] at this
theorem ts_dput {i : Nat} {k : Str} {kvs : List (Key × V)} {te : TE} {d : D} {r : TS} {D0 : Ends} (m : Mem S H) (hσ : σ[i]? = some (some (.ref p))) (hp : H p = some (.dK kvs)) (hl : kvs.length ≤ 100) (h : EvD K S te σ H d)
    (q : ∀ v H1, Ex H H1 → Rp K S H1 v d → r D0 σ (upd H1 p (.dK (putK kvs (.inr k) v)))) : tSeq (sDPut (tVar i) (tC (.str k)) te) r D0 σ H := h H (Evl.Ex.refl _) _ fun v H1 e1 r1 =>
  ⟨.ref p, hσ, p, _, rfl, DPut.k (k := Sum.inr k) (e1 _ _ hp) (by rw [sizeLine_eq]; omega), q v H1 e1 r1⟩
theorem ts_parset {i j : Nat} {ta : TA} {d1 d2 : D} {r : TS} {D0 : Ends} (h : EvA K S ta σ H [d1, d2]) (q : ∀ v w H1, Ex H H1 → Rp K S H1 v d1 → Rp K S H1 w d2 → r D0 ((σ.set i (some v)).set j (some w)) H1) : tSeq (tPar i j ta) r D0 σ H := h H (Evl.Ex.refl _) _ fun vs H1 e1 r1 => by
  obtain ⟨v, w, rfl, r1, r2⟩ := r1.two
  exact ⟨v, w, rfl, q v w H1 e1 r1 r2⟩
theorem tn_seq {t r : TS} {D0 : Ends} (h : tSeq t r D0 σ H) : tNext { D0 with nx := tSeq t r D0 } σ H := h
theorem ts_asgnx {te : TE} {i : Nat} {d : D} {r : TS} {D0 : Ends} (h : EvD K S te σ H d) (q : ∀ v H1, Ex H H1 → Rp K S H1 v d → r D0 (σ.set i (some v)) H1) : tAsg te (gName i) { D0 with nx := r D0 } σ H := h H (Evl.Ex.refl _) _ q
def spDraw (K : PySem.W.Frag) : Sp := fun vs H Q _ => ∃ S p n most, vs = [.ref p, .int most] ∧ Mem S H ∧ PenAt K S H p n ∧ n ≤ 1000000 ∧ 1 ≤ most ∧ most ≤ 1000 ∧ ∀ k H', 0 ≤ k → k < most → Ex1 p H H' → Mem S H' → PenAt K S H' p (n + 1) → Q (.int k) H'
theorem put_at {ra : Addr} {a : Nat} {r : Int} : putK (penK ra a r) (.inr "at") (.int ((a : Int) + 1)) = penK ra (a + 1) r := rfl
theorem put_rest {ra : Addr} {a : Nat} {r z : Int} : putK (penK ra a r) (.inr "rest") (.int z) = penK ra a z := rfl
theorem pr_draw (vs : List V) (H : Hp) (Q : VK) (E : XK) (h : spDraw K vs H Q E) : t_law_draw K A E { nx := fun _ H' => Q .non H', rt := Q } (start ["pen", "most", "great", "at", "row", "cell", "number", "mixed"] vs) H := by
  obtain ⟨S, p, n, most, rfl, m, ⟨sp, ra, ns, a, r, hp, hrow, hns, han, hr⟩, hn, hm1, hm2, k⟩ := h
  show t_law_draw K A E { nx := fun _ H' => Q .non H', rt := Q } [some (.ref p), some (.int most), none, none, none, none, none, none] H
  have rest1 : EvD K S (tDGet (tVar 0) (tC (.str "rest"))) [some (.ref p), some (.int most), none, none, none, none, none, none] H (.int r) := ev_dget m rfl hp rfl (.int r)
  refine ts_ifseq (eb_T (ev_op (K := K) m rest1 ev_int r_gt)) fun H1 e1 => ?_
  have m1 := m.ex e1
  have hp1 := e1 _ _ hp
  have hrow1 := hrow.mono (.of m e1)
  -- what a put of rest leaves
  have penR : ∀ (H2 : Hp) (a' : Nat) (r' z : Int), Mem S H2 → Rp K S H2 (.ref ra) (.lst (List.map D.int ns)) → a' ≤ n + 1 → 0 ≤ z → PenAt K S (upd H2 p (.dK (penK ra a' z))) p (n + 1) := fun H2 a' r' z m2 hrow2 ha' hz =>
    ⟨sp, ra, ns, a', z, upd_same, hrow2.mono (ExS.put m2 sp), hns, ha', hz⟩
  by_cases hr0 : (0 : Int) < r
  · rw [decide_eq_true hr0, if_pos rfl]
    refine ts_set (K := K) (ev_cb (ea_cons m1 (ev_dget m1 rfl hp1 rfl (.int r)) ea_nil) ra_int) fun u H2 e2 ru => ?_
    cases ru
    have m2 := m1.ex e2
    refine ts_dput (K := K) (S := S) (d := .int (r.fdiv most)) m2 rfl (e2 _ _ hp1) (by show 3 ≤ 100; decide) (ev_op m2 (ev_var (i := 2) m2 rfl (.int r)) (ev_var (i := 1) m2 rfl (.int most)) (r_div ⟨by omega, by omega⟩)) fun v H3 e3 rv => ?_
    cases rv
    rw [put_rest]
    have m3 := m2.ex e3
    have mP := (ExS.put (o := .dK (penK ra a (r.fdiv most))) m3 sp).mem
    refine ts_ret (K := K) (S := S) (ev_op mP (ev_cb (ea_cons mP (ev_var (i := 2) mP rfl (.int r)) ea_nil) ra_int) (ev_var (i := 1) mP rfl (.int most)) (r_mod (by omega))) fun w H4 e4 rw' => ?_
    cases rw'
    have hf := fmod_rng (i := r) (j := most) (by omega)
    have hPen := penR H3 a r (r.fdiv most) m3 (hrow1.mono (.of m1 (e2.trans e3))) (by omega) (fdiv_nn hr (by omega))
    refine k _ H4 hf.1 hf.2 (((Ex.ex1 e1).trans (Ex.ex1 (e2.trans e3))).trans (ex1_put.trans (Ex.ex1 e4))) (mP.ex e4) ?_
    obtain ⟨s', ra', ns', a', r', g1, g2, g3, g4, g5⟩ := hPen
    exact ⟨s', ra', ns', a', r', e4 _ _ g1, g2.mono (.of mP e4), g3, g4, g5⟩
  · rw [decide_eq_false hr0, if_neg Bool.false_ne_true]
    have hsm : ∀ (x : Int), x.natAbs < 2 ^ 60 → -(2 ^ 64) < x ∧ x < 2 ^ 64 := fun x hx => by omega
    refine tn_seq (ts_parset (K := K) (ea_cons m1 (ev_dget m1 rfl hp1 rfl (.int a)) (ea_cons m1 (ev_dget m1 rfl hp1 rfl hrow1) ea_nil)) fun v w H2 e2 rv rw' => ?_)
    cases rv
    have m2 := m1.ex e2
    refine ts_dput (K := K) (S := S) (σ := [some (.ref p), some (.int most), none, some (.int a), some w, none, none, none]) (d := .int ((a : Int) + 1)) m2 rfl (e2 _ _ hp1) (by show 3 ≤ 100; decide) (ev_op m2 (ev_var (i := 3) m2 rfl (.int a)) ev_int r_add) fun v H3 e3 rv => ?_
    cases rv
    rw [put_at]
    have m3 := m2.ex e3
    have mP := (ExS.put (o := .dK (penK ra (a + 1) r)) m3 sp)
    have m4 := mP.mem
    have hpen4 : (upd H3 p (.dK (penK ra (a + 1) r))) p = some (.dK (penK ra (a + 1) r)) := upd_same
    have ex4 : Ex1 p H (upd H3 p (.dK (penK ra (a + 1) r))) := (Ex.ex1 ((e1.trans e2).trans e3)).trans ex1_put
    have hw4 : Rp K S (upd H3 p (.dK (penK ra (a + 1) r))) w (.lst (List.map D.int ns)) := (rw'.mono (.of m2 e3)).mono mP
    have hrow4 : Rp K S (upd H3 p (.dK (penK ra (a + 1) r))) (.ref ra) (.lst (List.map D.int ns)) := (hrow1.mono (.of m1 (e2.trans e3))).mono mP
    generalize upd H3 p (.dK (penK ra (a + 1) r)) = H4 at m4 hpen4 ex4 hw4 hrow4
    refine ts_set (K := K) (S := S) (σ := [some (.ref p), some (.int most), none, some (.int a), some w, none, none, none]) (ev_op m4 (ev_op m4 (ev_int (i := 28924)) (ev_var (i := 3) m4 rfl (.int a)) (r_mul (.inl (by omega)))) (ev_int (i := 8388)) r_add) fun v5 H5 e5 r5 => ?_
    have m5 := m4.ex e5
    have hw5 := hw4.mono (.of m4 e5)
    obtain ⟨c5, rfl⟩ : ∃ c, v5 = .int c := by cases r5; exact ⟨_, rfl⟩
    -- the cell, whichever
    have cellT : ∀ (c : Int) (H6 : Hp), Ex H5 H6 → tSeq (tAsg (tIf (tAnd (tB (tCB (rIsi K) (tCons (tVar 5) (tCons (tC (.ty "int")) tNil)))) (tNot (tB (tCB (rIsi K) (tCons (tVar 5) (tCons (tC (.ty "bool")) tNil)))))) (tVar 5) (tC (.int 0))) (gName 6))
        (tSeq (tIfS (tAnd (tTest (tOp rLtI (tVar 3) (tCB (rLenV K) (tCons (tVar 4) tNil)))) (tTest (tOp rGeI (tCB rAbs (tCons (tVar 6) tNil)) (tOp rPowI (tC (.int 10)) (tC (.int 18)))))) (tSeq (tAsg (tOp rAddI (tOp rMulI (tC (.int 2)) (tOp rSubI (tCB rAbs (tCons (tVar 6) tNil)) (tOp rPowI (tC (.int 10)) (tC (.int 18))))) (tCB rIntI (tCons (tOp rLtI (tVar 6) (tC (.int 0))) tNil))) (gName 2))
        (tSeq (sDPut (tVar 0) (tC (.str "rest")) (tOp rDivI (tCB rIntI (tCons (tVar 2) tNil)) (tVar 1)))
        (tRet (tOp rModI (tCB rIntI (tCons (tVar 2) tNil)) (tVar 1))))) tNext)
        (tSeq (tAsg (tOp rModI (tCB rIntI (tCons (tOp rPowI (tOp rAddI (tOp rAddI (tOp rModI (tCB rIntI (tCons (tVar 6) tNil)) (tC (.int 2147483549))) (tOp rMulI (tC (.int 100202)) (tVar 3))) (tC (.int 8388))) (tC (.int 5))) tNil)) (tC (.int 2147483563))) (gName 7))
        (tSeq (tAsg (tOp rModI (tCB rIntI (tCons (tOp rPowI (tOp rAddI (tOp rAddI (tOp rMulI (tVar 7) (tOp rAddI (tOp rMulI (tC (.int 2)) (tVar 3)) (tC (.int 7942)))) (tOp rMulI (tOp rMulI (tC (.int 108744)) (tVar 3)) (tVar 3))) (tC (.int 100202))) (tC (.int 3))) tNil)) (tC (.int 2147483579))) (gName 7))
        (tRet (tOp rModI (tCB rIntI (tCons (tOp rDivI (tVar 7) (tC (.int 32))) tNil)) (tVar 1)))))) { nx := fun _ H' => Q .non H', rt := Q } [some (.ref p), some (.int most), none, some (.int a), some w, some (.int c), none, none] H6 := fun c H6 e6 => by
      have m6 := m5.ex e6
      have i1 : EvB (tB (tCB (rIsi K) (tCons (tVar 5) (tCons (tC (.ty "int")) tNil)))) [some (.ref p), some (.int most), none, some (.int a), some w, some (.int c), none, none] H6 true := eb_B (r_isi (d := .int c) (ev_var (i := 5) m6 rfl (.int c)) trivial (ki_int rfl))
      have i2 : EvB (tB (tCB (rIsi K) (tCons (tVar 5) (tCons (tC (.ty "bool")) tNil)))) [some (.ref p), some (.int most), none, some (.int a), some w, some (.int c), none, none] H6 false := eb_B (r_isi (d := .int c) (ev_var (i := 5) m6 rfl (.int c)) trivial (ki_bool rfl))
      refine ts_set (K := K) (S := S) (d := .int c) (ev_if (b := true) (eb_and i1 fun _ => eb_not i2) (fun _ => ev_var (i := 5) m6 rfl (.int c)) fun z => by cases z) fun v7 H7 e7 r7 => ?_
      cases r7
      have m7 := m6.ex e7
      have hw7 := hw5.mono (.of m5 (e6.trans e7))
      have habs : EvD K S (tCB rAbs (tCons (tVar 6) tNil)) [some (.ref p), some (.int most), none, some (.int a), some w, some (.int c), some (.int c), none] H7 (.int (if c < 0 then -c else c)) := ev_cb (ea_cons m7 (ev_var (i := 6) m7 rfl (.int c)) ea_nil) ra_abs
      have hpow : EvD K S (tOp rPowI (tC (.int 10)) (tC (.int 18))) [some (.ref p), some (.int most), none, some (.int a), some w, some (.int c), some (.int c), none] H7 (.int ((10 : Int) ^ (18 : Int).toNat)) := ev_op m7 ev_int ev_int (r_pow ⟨by decide, by decide, by decide⟩)
      have hlt : EvB (tTest (tOp rLtI (tVar 3) (tCB (rLenV K) (tCons (tVar 4) tNil)))) [some (.ref p), some (.int most), none, some (.int a), some w, some (.int c), some (.int c), none] H7 (decide ((a : Int) < (lenD (.lst (List.map D.int ns)) : Nat))) := eb_T (ev_op m7 (ev_var (i := 3) m7 rfl (.int a)) (ev_cb (ea_cons m7 (ev_var (i := 4) m7 rfl hw7) ea_nil) (ra_len rfl)) r_lt)
      refine ts_ifseq (σ := [some (.ref p), some (.int most), none, some (.int a), some w, some (.int c), some (.int c), none]) (eb_and hlt fun _ => eb_T (ev_op m7 habs hpow r_ge)) fun H8 e8 => ?_
      have m8 := m7.ex e8
      have hp8 : H8 p = some (.dK (penK ra (a + 1) r)) := e8 _ _ (e7 _ _ (e6 _ _ (e5 _ _ hpen4)))
      have hrow8 : Rp K S H8 (.ref ra) (.lst (List.map D.int ns)) := hrow4.mono (.of m4 (((e5.trans e6).trans e7).trans e8))
      have ex8 : Ex1 p H H8 := ex4.trans (Ex.ex1 (((e5.trans e6).trans e7).trans e8))
      by_cases hbig : (decide ((a : Int) < (lenD (.lst (List.map D.int ns)) : Nat)) && decide ((10 : Int) ^ (18 : Int).toNat ≤ (if c < 0 then -c else c))) = true
      · rw [if_pos hbig]
        have hge : (10 : Int) ^ (18 : Int).toNat ≤ (if c < 0 then -c else c) := by
          rw [Bool.and_eq_true] at hbig
          exact of_decide_eq_true hbig.2
        generalize hG : (2 * ((if c < 0 then -c else c) - (10 : Int) ^ (18 : Int).toNat) + (if decide (c < 0) = true then 1 else 0) : Int) = G
        have hG0 : 0 ≤ G := by
          rw [← hG]
          split <;> omega
        refine ts_set (K := K) (S := S) (d := .int G) (σ := [some (.ref p), some (.int most), none, some (.int a), some w, some (.int c), some (.int c), none]) ((ev_op m8 (ev_op m8 (ev_int (i := 2)) (ev_op m8 (habs.mono e8) (hpow.mono e8) r_sub) (r_mul (.inl (by omega)))) (ev_cb (ea_cons m8 (ev_op m8 (ev_var (i := 6) m8 rfl (.int c)) (ev_int (i := 0)) r_lt) ea_nil) ra_intB) r_add).is (by rw [← hG])) fun v9 H9 e9 r9 => ?_
        cases r9
        have m9 := m8.ex e9
        refine ts_dput (K := K) (S := S) (σ := [some (.ref p), some (.int most), some (.int G), some (.int a), some w, some (.int c), some (.int c), none]) (d := .int (G.fdiv most)) m9 rfl (e9 _ _ hp8) (by show 3 ≤ 100; decide) (ev_op m9 (ev_cb (ea_cons m9 (ev_var (i := 2) m9 rfl (.int G)) ea_nil) ra_int) (ev_var (i := 1) m9 rfl (.int most)) (r_div ⟨by omega, by omega⟩)) fun v H10 e10 rv => ?_
        cases rv
        rw [put_rest]
        have m10 := m9.ex e10
        have hPen := penR H10 (a + 1) r (G.fdiv most) m10 (hrow8.mono (.of m8 (e9.trans e10))) (by omega) (fdiv_nn hG0 (by omega))
        have mQ := (ExS.put (o := .dK (penK ra (a + 1) (G.fdiv most))) m10 sp).mem
        refine ts_ret (K := K) (S := S) (ev_op mQ (ev_cb (ea_cons mQ (ev_var (i := 2) mQ rfl (.int G)) ea_nil) ra_int) (ev_var (i := 1) mQ rfl (.int most)) (r_mod (by omega))) fun w H11 e11 rw' => ?_
        cases rw'
        have hf := fmod_rng (i := G) (j := most) (by omega)
        refine k _ H11 hf.1 hf.2 ((ex8.trans (Ex.ex1 (e9.trans e10))).trans (ex1_put.trans (Ex.ex1 e11))) (mQ.ex e11) ?_
        obtain ⟨s', ra', ns', a', r', g1, g2, g3, g4, g5⟩ := hPen
        exact ⟨s', ra', ns', a', r', e11 _ _ g1, g2.mono (.of mQ e11), g3, g4, g5⟩
      · rw [if_neg hbig]
        have f1 := fmod_rng (i := c) (j := 2147483549) (by decide)
        generalize hm5 : ((c.fmod 2147483549 + 100202 * (a : Int) + 8388) ^ (5 : Int).toNat).fmod 2147483563 = M1
        have f2 := fmod_rng (i := (c.fmod 2147483549 + 100202 * (a : Int) + 8388) ^ (5 : Int).toNat) (j := 2147483563) (by decide)
        rw [hm5] at f2
        refine tn_seq (ts_set (K := K) (S := S) (σ := [some (.ref p), some (.int most), none, some (.int a), some w, some (.int c), some (.int c), none]) (d := .int M1) ((ev_op m8 (ev_cb (ea_cons m8 (ev_op m8 (ev_op m8 (ev_op m8 (ev_op m8 (ev_cb (ea_cons m8 (ev_var (i := 6) m8 rfl (.int c)) ea_nil) ra_int) (ev_int (i := 2147483549)) (r_mod (by decide))) (ev_op m8 (ev_int (i := 100202)) (ev_var (i := 3) m8 rfl (.int a)) (r_mul (.inl (by omega)))) r_add) (ev_int (i := 8388)) r_add) (ev_int (i := 5)) (r_pow ⟨by decide, by decide, by omega⟩)) ea_nil) ra_int) (ev_int (i := 2147483563)) (r_mod (by decide))).is (by rw [← hm5])) fun v9 H9 e9 r9 => ?_)
        cases r9
        have m9 := m8.ex e9
        have b1 : 0 ≤ M1 * (2 * (a : Int) + 7942) := Int.mul_nonneg f2.1 (by omega)
        have b2 : M1 * (2 * (a : Int) + 7942) ≤ 2147483563 * 2010000 := Int.mul_le_mul (by omega) (by omega) (by omega) (by omega)
        have b3 : 0 ≤ 108744 * (a : Int) * (a : Int) := Int.mul_nonneg (by omega) (by omega)
        have b4 : 108744 * (a : Int) * (a : Int) ≤ 108744 * 1000001 * 1000001 := Int.mul_le_mul (by omega) (by omega) (by omega) (by omega)
        generalize hm3 : ((M1 * (2 * (a : Int) + 7942) + 108744 * (a : Int) * (a : Int) + 100202) ^ (3 : Int).toNat).fmod 2147483579 = M2
        have f3 := fmod_rng (i := (M1 * (2 * (a : Int) + 7942) + 108744 * (a : Int) * (a : Int) + 100202) ^ (3 : Int).toNat) (j := 2147483579) (by decide)
        rw [hm3] at f3
        refine ts_set (K := K) (S := S) (σ := [some (.ref p), some (.int most), none, some (.int a), some w, some (.int c), some (.int c), some (.int M1)]) (d := .int M2) ((ev_op m9 (ev_cb (ea_cons m9 (ev_op m9 (ev_op m9 (ev_op m9 (ev_op m9 (ev_var (i := 7) m9 rfl (.int M1)) (ev_op m9 (ev_op m9 (ev_int (i := 2)) (ev_var (i := 3) m9 rfl (.int a)) (r_mul (.inl (by omega)))) (ev_int (i := 7942)) r_add) (r_mul (.inl (by omega)))) (ev_op m9 (ev_op m9 (ev_int (i := 108744)) (ev_var (i := 3) m9 rfl (.int a)) (r_mul (.inl (by omega)))) (ev_var (i := 3) m9 rfl (.int a)) (r_mul (.inl (by omega)))) r_add) (ev_int (i := 100202)) r_add) (ev_int (i := 3)) (r_pow ⟨by decide, by decide, by omega⟩)) ea_nil) ra_int) (ev_int (i := 2147483579)) (r_mod (by decide))).is (by rw [← hm3])) fun v10 H10 e10 r10 => ?_
        cases r10
        have m10 := m9.ex e10
        refine ts_ret (K := K) (S := S) (σ := [some (.ref p), some (.int most), none, some (.int a), some w, some (.int c), some (.int c), some (.int M2)]) (ev_op m10 (ev_cb (ea_cons m10 (ev_op m10 (ev_var (i := 7) m10 rfl (.int M2)) (ev_int (i := 32)) (r_div ⟨by decide, by decide⟩)) ea_nil) ra_int) (ev_var (i := 1) m10 rfl (.int most)) (r_mod (by omega))) fun w H11 e11 rw' => ?_
        cases rw'
        have hf := fmod_rng (i := M2.fdiv 32) (j := most) (by omega)
        have x11 := (e9.trans e10).trans e11
        exact k _ H11 hf.1 hf.2 (ex8.trans (Ex.ex1 x11)) (m10.ex e11) ⟨sp, ra, ns, a + 1, r, x11 _ _ hp8, hrow8.mono (.of m8 x11), hns, by omega, hr⟩
    have hne : EvB (tTest (tOp (rNeD K) (tVar 4) (tLst tNil))) [some (.ref p), some (.int most), none, some (.int a), some w, some (.int c5), none, none] H5 (!eqD (.lst (List.map D.int ns)) (.lst [])) := by
      refine eb_T (ev_op m5 (ev_var (i := 4) m5 rfl hw5) (ev_lst m5 ea_nil (by show 0 ≤ _; omega)) (r_neD ?_ rfl ?_ (by show 1 ≤ 64; decide)))
      · show plainA (List.map D.int ns) = true
        have : ∀ l : List Int, plainA (List.map D.int l) = true := fun l => by induction l with | nil => rfl | cons x l ih => exact ih
        exact this ns
      · show depA (List.map D.int ns) + 1 ≤ 64
        have : ∀ l : List Int, depA (List.map D.int l) = 0 := fun l => by induction l with | nil => rfl | cons x l ih => show max 0 (depA _) = 0; rw [ih]; rfl
        rw [this]; decide
    refine ts_ifseq (σ := [some (.ref p), some (.int most), none, some (.int a), some w, some (.int c5), none, none]) hne fun H6 e6 => ?_
    have m6 := m5.ex e6
    cases ns with
    | nil =>
      rw [if_neg (by decide)]
      exact cellT c5 H6 e6
    | cons n0 nr =>
      rw [if_pos (by rfl)]
      have hlen : (0 : Int) < ((lenD (.lst (List.map D.int (n0 :: nr))) : Nat) : Int) := by
        show (0 : Int) < (((List.map D.int (n0 :: nr)).length : Nat) : Int)
        rw [List.length_map, List.length_cons]; omega
      have fl := fmod_rng (i := (a : Int)) hlen
      obtain ⟨j, hj⟩ : ∃ j : Nat, (a : Int).fmod ((lenD (.lst (List.map D.int (n0 :: nr))) : Nat) : Int) = (j : Int) := ⟨_, (Int.toNat_of_nonneg fl.1).symm⟩
      have hjl : j < (n0 :: nr).length := by
        have : lenD (.lst (List.map D.int (n0 :: nr))) = (n0 :: nr).length := by show (List.map D.int (n0 :: nr)).length = _; rw [List.length_map]
        rw [this] at fl hj
        omega
      refine ts_asgnx (K := K) (S := S) (d := .int ((n0 :: nr)[j])) (σ := [some (.ref p), some (.int most), none, some (.int a), some w, some (.int c5), none, none]) (ev_op m6 (ev_var (i := 4) m6 rfl (hw5.mono (.of m5 e6))) ((ev_op m6 (ev_cb (ea_cons m6 (ev_var (i := 3) m6 rfl (.int a)) ea_nil) ra_int) (ev_cb (ea_cons m6 (ev_var (i := 4) m6 rfl (hw5.mono (.of m5 e6))) ea_nil) (ra_len rfl)) (r_mod (by omega))).is (by rw [hj])) (r_ixL (by rw [List.getElem?_map, List.getElem?_eq_getElem hjl]; rfl))) fun v7 H7 e7 r7 => ?_
      cases r7
      exact cellT _ H7 (e6.trans e7)
end

end Nv
set_option Elab.async false
set_option linter.all false
set_option maxRecDepth 100000
set_option maxHeartbeats 4000000
/-! Houses as data; promises of the checks. -/
namespace Nv
open PySem PySem.Spec PyProof.Rows L2 StX NvZ
/-! ### houses -/
inductive Cl where
  | none | halves | counts (m : Option Int) (o : Str) | marks (gs : List Str) | young (n : Int) (r : Str)
abbrev Kind := Int × List (List Int)
structure Hs where
  cells : Int
  kinds : List Kind
  registers : Int
  live : Int
  rooms : Str
  coll : Cl
  pace : Option Int
  need : Str
  slide : Bool
  asked : List Str
def optD : Option Int → D
  | none => .non
  | some i => .int i
def intsD (l : List Int) : D := .tup (l.map D.int)
def strsT (l : List Str) : D := .tup (l.map D.str)
def kindD (k : Kind) : D := .tup [.int k.1, .tup (k.2.map intsD)]
def kindsD (ks : List Kind) : D := .tup (ks.map kindD)
def wordC : Cl → Str
  | .none => "none"
  | .halves => "halves"
  | .counts _ _ => "counts"
  | .marks _ => "marks"
  | .young _ _ => "young"
def restC : Cl → List D
  | .none => []
  | .halves => []
  | .counts m o => [optD m, .str o]
  | .marks gs => [strsT gs]
  | .young n r => [.int n, .str r]
def collD (c : Cl) : D := .tup (.str (wordC c) :: restC c)
/-- the fields, in order -/
def hsD (h : Hs) : List D := [.int h.cells, kindsD h.kinds, .int h.registers, .int h.live, .str h.rooms, collD h.coll, .str (wordC h.coll), optD h.pace, .str h.need, .bl h.slide, strsT h.asked]
def lROOMS : List Str := ["first", "last", "best", "worst", "buddy", "slots"]
def lGUARDS : List Str := ["after", "again", "before", "black", "load"]
def lREMEMBERS : List Str := ["all", "first", "none"]
def lORDERS : List Str := ["more", "less"]
def lNEEDS : List Str := ["finish", "refuse"]
def lBREAKS : List Str := ["full", "lost", "swept"]
def lCOLLECTORS : List Str := ["none", "counts", "marks", "halves", "young"]
def lTRUTHS : List Str := ["no", "yes"]
def ltS (a b : Str) : Prop := a.cps.toList < b.cps.toList
structure LotOk (lo hi : Int) (l : List Int) : Prop where
  rng : ∀ i ∈ l, lo ≤ i ∧ i ≤ hi
  inc : l.Pairwise (· < ·)
  len0 : l.length ≤ 100
theorem LotOk.len {lo hi : Int} {l : List Int} (o : LotOk lo hi l) : l.length ≤ 1000 := Nat.le_trans o.len0 (by decide)
structure WLotOk (ws l : List Str) : Prop where
  mem : ∀ x ∈ l, x ∈ ws
  inc : l.Pairwise ltS
  len0 : l.length ≤ 100
theorem WLotOk.len {ws l : List Str} (o : WLotOk ws l) : l.length ≤ 1000 := Nat.le_trans o.len0 (by decide)
def least2 (i : Int) : Int := if (2 : Int) < i then 2 else i
structure KindOk (many : Int) (k : Kind) : Prop where
  lo : 1 ≤ k.1
  hi : k.1 ≤ 3
  len : (k.2.length : Int) ≤ least2 k.1
  each : ∀ l ∈ k.2, LotOk 0 (many - 1) l
def CollOk : Cl → Prop
  | .none => True
  | .halves => True
  | .counts m o => (∀ v, m = some v → 1 ≤ v ∧ v ≤ 3) ∧ o ∈ lORDERS
  | .marks gs => WLotOk lGUARDS gs
  | .young n r => (1 ≤ n ∧ n ≤ 11) ∧ r ∈ lREMEMBERS
/-- the parts are right, each for itself -/
structure PartsOk (h : Hs) : Prop where
  c1 : 1 ≤ h.cells
  c2 : h.cells ≤ 12
  k1 : 1 ≤ h.kinds.length
  k2 : h.kinds.length ≤ 3
  kinds : ∀ k ∈ h.kinds, KindOk (h.kinds.length : Nat) k
  r1 : 1 ≤ h.registers
  r2 : h.registers ≤ 4
  l1 : 1 ≤ h.live
  l2 : h.live ≤ 12
  rooms : h.rooms ∈ lROOMS
  coll : CollOk h.coll
  pace : ∀ v, h.pace = some v → 0 ≤ v ∧ v ≤ 6
  need : h.need ∈ lNEEDS
  asked : WLotOk lBREAKS h.asked
  swept : ("swept" : Str) ∈ h.asked
/-! ### fixed, backwards -/
theorem fix_tup {d : D} {ts : List D} (h : fixD d = .tup ts) : ∃ ds, SeqD d ds ∧ ds.map fixD = ts := by
  cases d <;> simp only [fixD] at h <;> first | cases h | skip
  · exact ⟨_, .inl rfl, (fixA_map _).symm⟩
  · exact ⟨_, .inr rfl, (fixA_map _).symm⟩
theorem fix_int {d : D} {i : Int} (h : fixD d = .int i) : d = .int i := by cases d <;> simp only [fixD] at h <;> (try cases h) <;> rfl
theorem fix_str {d : D} {i : Str} (h : fixD d = .str i) : d = .str i := by cases d <;> simp only [fixD] at h <;> (try cases h) <;> rfl
theorem fix_non {d : D} (h : fixD d = .non) : d = .non := by cases d <;> simp only [fixD] at h <;> (try cases h) <;> rfl
theorem fix_opt {d : D} {o : Option Int} (h : fixD d = optD o) : d = optD o := by
  cases o with
  | none => exact fix_non h
  | some i => exact fix_int h
theorem fix_ints : ∀ {ds : List D} {l : List Int}, ds.map fixD = l.map D.int → ds = l.map D.int
  | [], [], _ => rfl
  | [], _ :: _, h => by cases h
  | _ :: _, [], h => by cases h
  | d :: ds, i :: l, h => by
    have h1 : fixD d = .int i := by injection h
    have h2 : ds.map fixD = l.map D.int := by injection h
    rw [fix_int h1, fix_ints h2]; rfl
theorem fix_strs : ∀ {ds : List D} {l : List Str}, ds.map fixD = l.map D.str → ds = l.map D.str
  | [], [], _ => rfl
  | [], _ :: _, h => by cases h
  | _ :: _, [], h => by cases h
  | d :: ds, i :: l, h => by
    have h1 : fixD d = .str i := by injection h
    have h2 : ds.map fixD = l.map D.str := by injection h
    rw [fix_str h1, fix_strs h2]; rfl
theorem map_mem {α : Type} {f : α → D} : ∀ {ds : List D} {l : List α}, ds.map fixD = l.map f → ∀ d ∈ ds, ∃ a ∈ l, fixD d = f a
  | [], _, _, d, hd => by cases hd
  | _ :: _, [], h, _, _ => by cases h
  | d :: ds, a :: l, h, e, he => by
    have h1 : fixD d = f a := by injection h
    have h2 : ds.map fixD = l.map f := by injection h
    rcases List.mem_cons.mp he with z | z
    · rw [z]; exact ⟨a, List.mem_cons_self .., h1⟩
    · obtain ⟨b, hb, e⟩ := map_mem h2 e z
      exact ⟨b, List.mem_cons_of_mem _ hb, e⟩
theorem map_len {α : Type} {f : α → D} {ds : List D} {l : List α} (h : ds.map fixD = l.map f) : ds.length = l.length := by
  have := congrArg List.length h
  rwa [List.length_map, List.length_map] at this
mutual
theorem okF_fix : ∀ d : D, okF (fixD d) = okF d
  | .lst ds => by
    show (decide ((fixA ds).length ≤ 100000) && okFA (fixA ds)) = (decide (ds.length ≤ 100000) && okFA ds)
    rw [fixA_len ds, okFA_fix ds]
  | .tup ds => by
    show (decide ((fixA ds).length ≤ 100000) && okFA (fixA ds)) = (decide (ds.length ≤ 100000) && okFA ds)
    rw [fixA_len ds, okFA_fix ds]
  | .non => rfl
  | .bl _ => rfl
  | .int _ => rfl
  | .str _ => rfl
  | .dic => rfl
  | .ins _ => rfl
theorem okFA_fix : ∀ ds : List D, okFA (fixA ds) = okFA ds
  | [] => rfl
  | d :: ds => by
    show (okF (fixD d) && okFA (fixA ds)) = (okF d && okFA ds)
    rw [okF_fix d, okFA_fix ds]
theorem fixA_len : ∀ ds : List D, (fixA ds).length = ds.length
  | [] => rfl
  | d :: ds => by
    show (fixA ds).length + 1 = ds.length + 1
    rw [fixA_len ds]
end
mutual
theorem dep_fix : ∀ d : D, dep (fixD d) = dep d
  | .lst ds => by
    show depA (fixA ds) + 1 = depA ds + 1
    rw [depA_fix ds]
  | .tup ds => by
    show depA (fixA ds) + 1 = depA ds + 1
    rw [depA_fix ds]
  | .non => rfl
  | .bl _ => rfl
  | .int _ => rfl
  | .str _ => rfl
  | .dic => rfl
  | .ins _ => rfl
theorem depA_fix : ∀ ds : List D, depA (fixA ds) = depA ds
  | [] => rfl
  | d :: ds => by
    show max (dep (fixD d)) (depA (fixA ds)) = max (dep d) (depA ds)
    rw [dep_fix d, depA_fix ds]
end
section
variable {K : PySem.W.Frag} {A : Ads} {S : Addr → Prop} {σ : L2.St} {H : Hp} {E : XK}
/-! ### small rules -/
theorem likeD_seq {d : D} {ds es : List D} (h : SeqD d ds) : SeqD (likeD d es) es := by
  rcases h with rfl | rfl
  · exact .inl rfl
  · exact .inr rfl
theorem ev_slX {te : TE} {tl th : TO} {d : D} {ds : List D} {lo hi : Option Int} (m : Mem S H) (hq : SeqD d ds) (h : EvD K S te σ H d) (hl : EvO tl σ H lo) (hh : EvO th σ H hi) : EvD K S (tSl (rSlX K) te tl th) σ H (likeD d (cutD ds lo hi)) := fun H1 e Q q =>
  h H1 e _ fun v H2 e2 r2 => hl H2 (e.trans e2) _ fun H3 e3 => hh H3 ((e.trans e2).trans e3) _ fun H4 e4 => by
    have r4 := r2.mono (.of (m.ex (e.trans e2)) (e3.trans e4))
    rcases hq with rfl | rfl
    · cases r4 with
      | @lst a xs _ h1 h2 =>
        exact .inl ⟨a, xs, rfl, h1.sq, fun p hp => q _ _ (((e2.trans e3).trans e4).trans (Evl.Ex.new hp)) (.newL (m.ex (((e.trans e2).trans e3).trans e4)) (h2.cut lo hi) hp)⟩
    · have r4' := r4
      cases r4 with
      | @tup a xs _ h1 h2 =>
        refine .inr ⟨a, xs, rfl, h1.sq, fun z => ?_, fun z p hp => q _ _ (((e2.trans e3).trans e4).trans (Evl.Ex.new hp)) (.newT (m.ex (((e.trans e2).trans e3).trans e4)) (h2.cut lo hi) hp)⟩
        have hc : cutD ds lo hi = ds := by
          unfold cutD
          rw [← h2.length, z.1, z.2, List.drop_zero, Nat.sub_zero, h2.length, List.take_length]
        refine q _ _ ((e2.trans e3).trans e4) ?_
        show Rp K S H4 (.ref a) (.tup (cutD ds lo hi))
        rw [hc]; exact r4'
theorem ev_tailX {te : TE} {d : D} {ds : List D} (m : Mem S H) (h : SeqD d ds) (ht : EvD K S te σ H d) : EvD K S (tSl (rSlX K) te (tPart (tC (.int 1))) tNoPart) σ H (likeD d (ds.drop 1)) := by
  have hlo : EvO (tPart (tC (.int 1))) σ H (some ((1 : Nat) : Int)) := eo_some (K := K) (S := S) ev_int
  have := ev_slX m h ht hlo eo_none
  have c : cutD ds (some ((1 : Nat) : Int)) none = ds.drop 1 := by
    cases ds with
    | nil => simp [cutD]
    | cons d ds => exact cut_from (by simp)
  rwa [c] at this
theorem ev_allT {α : Type} {te : TE} {ps : List α} (h : EvD K S te σ H (.lst (ps.map fun _ => .bl true))) : EvD K S (tCB (rAll K) (tCons te tNil)) σ H (.bl true) := by
  have e : ps.map (fun _ => D.bl true) = (ps.map fun _ => true).map D.bl := by rw [List.map_map]; rfl
  rw [e] at h
  refine (ev_cb (ev_a1 h) ra_all).is ?_
  have : (ps.map fun _ => true).all id = true := List.all_eq_true.mpr fun x hx => by
    obtain ⟨_, _, rfl⟩ := List.mem_map.mp hx
    rfl
  rw [this]
theorem pw_zip {α : Type} {R : α → α → Prop} : ∀ {l : List α}, l.Pairwise R → ∀ p ∈ l.zip (l.drop 1), R p.1 p.2
  | [], _, p, hp => by cases hp
  | [a], _, p, hp => by cases hp
  | a :: b :: l, h, p, hp => by
    have hp' : p ∈ (a, b) :: (b :: l).zip ((b :: l).drop 1) := hp
    rcases List.mem_cons.mp hp' with z | z
    · rw [z]; exact (List.pairwise_cons.mp h).1 b (List.mem_cons_self ..)
    · exact pw_zip (List.pairwise_cons.mp h).2 p z
theorem r_inQ {neg : Bool} {x : Str} {ws : List Str} {d : D} (h : SeqD d (ws.map D.str)) : R2D K S (rIn K neg) H (.str x) d (.bl (if neg then !decide (x ∈ ws) else decide (x ∈ ws))) := by
  rcases h with rfl | rfl
  · exact r_inL
  · exact r_inT
/-! ### is_lot, is_word, is_word_lot -/
abbrev T1 : List D → D := fun _ => .bl true
abbrev spLot (K : PySem.W.Frag) : Sp := Pure K 3 (fun ds => ∃ (d : D) (l : List Int) (lo hi : Int), ds = [d, .int lo, .int hi] ∧ SeqD d (l.map D.int) ∧ LotOk lo hi l) T1
theorem pr_lot (vs : List V) (H : Hp) (Q : VK) (E : XK) (h : spLot K vs H Q E) : t_is_lot K A E (spListed K) (spWithin K) { nx := fun _ H' => Q .non H', rt := Q } (start ["value", "least", "most", "part", "one", "other"] vs) H := pure_of h fun S ds hn m r hp => by
  obtain ⟨d, l, lo, hi, rfl, hq, ok⟩ := hp
  obtain ⟨v, u, t, rfl, r1, r2, r3⟩ := r.three
  have il : items d = l.map D.int := items_Q hq
  have ll : (l.map D.int).length ≤ 100000 := by rw [List.length_map]; have := ok.len; omega
  have h1 : EvB (tB (tCall (spListed K) [] E0 (tCons (tVar 0) tNil))) (start ["value", "least", "most", "part", "one", "other"] [v, u, t]) H true := by
    refine (eb_B (ev_pure m (ev_a1 (ev_var m rfl r1)) rfl ⟨d, rfl, base_Q hq⟩) (b := d.isLT)).is (isLT_Q hq)
  have h2 : EvB (tB (tCB (rAll K) (tCons (tLc (iSeq K (tVar 0)) (gName 3) tYes (tCall (spWithin K) [] E0 (tCons (tVar 3) (tCons (tVar 1) (tCons (tVar 2) tNil)))) [3]) tNil))) (start ["value", "least", "most", "part", "one", "other"] [v, u, t]) H true := by
    refine eb_B (ev_allT (ps := l.map D.int) ((ev_map (f := fun _ => .bl true) m (ei_seq m (ev_var m rfl r1) (walks_Q hq)) (by rw [il]; exact ll) fun S' H' m' up ex x e he rx => ?_).is (by rw [il])))
    rw [il] at he
    obtain ⟨i, hi', rfl⟩ := List.mem_map.mp he
    obtain ⟨g1, g2⟩ := ok.rng i hi'
    refine ⟨rfl, (ev_pure m' (ea_cons m' (ev_var (i := 3) m' rfl rx) (ea_cons m' (ev_var (i := 1) m' rfl (up _ _ r2)) (ea_cons m' (ev_var (i := 2) m' rfl (up _ _ r3)) ea_nil))) rfl ⟨_, _, _, rfl, rfl, rfl, rfl⟩).is ?_⟩
    show D.bl (decide (lo ≤ i) && decide (i ≤ hi)) = _
    rw [decide_eq_true g1, decide_eq_true g2]; rfl
  refine es_ifret (b := false) ((eb_or (eb_not h1) fun _ => eb_not h2).is rfl) (fun z => by cases z) fun _ => es_ret ?_
  have ht := ev_tailX m hq (ev_var (i := 0) (σ := start ["value", "least", "most", "part", "one", "other"] [v, u, t]) m rfl r1)
  have hq' := likeD_seq (es := (l.map D.int).drop 1) hq
  have hz := ei_zip m (ea_cons m (ev_var (i := 0) (σ := start ["value", "least", "most", "part", "one", "other"] [v, u, t]) m rfl r1) (ea_cons m ht ea_nil)) (walks_Q hq) (walks_Q hq')
  rw [il, items_Q hq'] at hz
  refine ev_allT (ps := (l.map D.int).zip ((l.map D.int).drop 1)) (ev_map2 (i := 4) (j := 5) (f := fun _ => .bl true) m hz (by rw [List.length_zip]; omega) fun S' H' m' up ex p hp x y rx ry => ?_)
  rw [← List.map_drop, List.zip_map, List.mem_map] at hp
  obtain ⟨⟨a, b⟩, hab, rfl⟩ := hp
  refine ⟨rfl, (ev_op m' (ev_var (i := 4) m' rfl rx) (ev_var (i := 5) m' rfl ry) r_lt).is ?_⟩
  rw [decide_eq_true (pw_zip ok.inc _ hab)]
abbrev spWord (K : PySem.W.Frag) : Sp := Pure K 2 (fun ds => ∃ (x : Str) (ws : List Str) (d : D), ds = [.str x, d] ∧ SeqD d (ws.map D.str) ∧ x ∈ ws) T1
theorem pr_word (vs : List V) (H : Hp) (Q : VK) (E : XK) (h : spWord K vs H Q E) : t_is_word K A E { nx := fun _ H' => Q .non H', rt := Q } (start ["value", "words"] vs) H := pure_of h fun S ds hn m r hp => by
  obtain ⟨x, ws, d, rfl, hq, hx⟩ := hp
  obtain ⟨v, u, rfl, r1, r2⟩ := r.two
  refine (es_ret (ev_and (r_isi (ev_var m rfl r1) trivial (ki_str rfl)) fun _ => ev_op m (ev_var m rfl r1) (ev_var m rfl r2) (r_inQ (neg := false) hq))).is ?_
  show D.bl (true && decide (x ∈ ws)) = _
  rw [decide_eq_true hx]; rfl
abbrev spWordLot (K : PySem.W.Frag) : Sp := Pure K 2 (fun ds => ∃ (d e : D) (l ws : List Str), ds = [d, e] ∧ SeqD d (l.map D.str) ∧ SeqD e (ws.map D.str) ∧ WLotOk ws l) T1
theorem r_ltS {i j : Str} : R2D K S rLtS H (.str i) (.str j) (.bl (decide (i.cps.toList < j.cps.toList))) := fun H1 _ x y rx ry Q q => by
  cases rx; cases ry
  exact ⟨i, j, rfl, rfl, q _ H1 (Evl.Ex.refl _) (.bl _)⟩
theorem r_gtS {i j : Str} : R2D K S rGtS H (.str i) (.str j) (.bl (decide (j.cps.toList < i.cps.toList))) := fun H1 _ x y rx ry Q q => by
  cases rx; cases ry
  exact ⟨i, j, rfl, rfl, q _ H1 (Evl.Ex.refl _) (.bl _)⟩
theorem pr_wordlot (vs : List V) (H : Hp) (Q : VK) (E : XK) (h : spWordLot K vs H Q E) : t_is_word_lot K A E (spListed K) (spWord K) { nx := fun _ H' => Q .non H', rt := Q } (start ["value", "words", "part", "one", "other"] vs) H := pure_of h fun S ds hn m r hp => by
  obtain ⟨d, dw, l, ws, rfl, hq, hw, ok⟩ := hp
  obtain ⟨v, u, rfl, r1, r2⟩ := r.two
  have il : items d = l.map D.str := items_Q hq
  have ll : (l.map D.str).length ≤ 100000 := by rw [List.length_map]; have := ok.len; omega
  have h1 : EvB (tB (tCall (spListed K) [] E0 (tCons (tVar 0) tNil))) (start ["value", "words", "part", "one", "other"] [v, u]) H true := by
    refine (eb_B (ev_pure m (ev_a1 (ev_var m rfl r1)) rfl ⟨d, rfl, base_Q hq⟩) (b := d.isLT)).is (isLT_Q hq)
  have h2 : EvB (tB (tCB (rAll K) (tCons (tLc (iSeq K (tVar 0)) (gName 2) tYes (tCall (spWord K) [] E0 (tCons (tVar 2) (tCons (tVar 1) tNil))) [2]) tNil))) (start ["value", "words", "part", "one", "other"] [v, u]) H true := by
    refine eb_B (ev_allT (ps := l.map D.str) ((ev_map (f := fun _ => .bl true) m (ei_seq m (ev_var m rfl r1) (walks_Q hq)) (by rw [il]; exact ll) fun S' H' m' up ex x e he rx => ?_).is (by rw [il])))
    rw [il] at he
    obtain ⟨i, hi', rfl⟩ := List.mem_map.mp he
    exact ⟨rfl, ev_pure m' (ea_cons m' (ev_var (i := 2) m' rfl rx) (ea_cons m' (ev_var (i := 1) m' rfl (up _ _ r2)) ea_nil)) rfl ⟨i, ws, dw, rfl, hw, ok.mem i hi'⟩⟩
  refine es_ifret (b := false) ((eb_or (eb_not h1) fun _ => eb_not h2).is rfl) (fun z => by cases z) fun _ => es_ret ?_
  have ht := ev_tailX m hq (ev_var (i := 0) (σ := start ["value", "words", "part", "one", "other"] [v, u]) m rfl r1)
  have hq' := likeD_seq (es := (l.map D.str).drop 1) hq
  have hz := ei_zip m (ea_cons m (ev_var (i := 0) (σ := start ["value", "words", "part", "one", "other"] [v, u]) m rfl r1) (ea_cons m ht ea_nil)) (walks_Q hq) (walks_Q hq')
  rw [il, items_Q hq'] at hz
  refine ev_allT (ps := (l.map D.str).zip ((l.map D.str).drop 1)) (ev_map2 (i := 3) (j := 4) (f := fun _ => .bl true) m hz (by rw [List.length_zip]; omega) fun S' H' m' up ex p hp x y rx ry => ?_)
  rw [← List.map_drop, List.zip_map, List.mem_map] at hp
  obtain ⟨⟨a, b⟩, hab, rfl⟩ := hp
  refine ⟨rfl, (ev_op m' (ev_var (i := 3) m' rfl rx) (ev_var (i := 4) m' rfl ry) r_ltS).is ?_⟩
  rw [decide_eq_true (show a.cps.toList < b.cps.toList from pw_zip ok.inc _ hab)]
end
end Nv
set_option Elab.async false
set_option linter.all false
set_option maxRecDepth 100000
set_option maxHeartbeats 4000000
/-! Promises: kinds, collectors. -/
namespace Nv
open PySem PySem.Spec PyProof.Rows L2 StX NvZ
/-- the module's tuples of words -/
structure Tp (A : Ads) (K : PySem.W.Frag) : Prop where
  rooms : SqT K H0 A.tROOMS (lROOMS.map V.str)
  guards : SqT K H0 A.tGUARDS (lGUARDS.map V.str)
  remembers : SqT K H0 A.tREMEMBERS (lREMEMBERS.map V.str)
  orders : SqT K H0 A.tORDERS (lORDERS.map V.str)
  needs : SqT K H0 A.tNEEDS (lNEEDS.map V.str)
  breaks : SqT K H0 A.tBREAKS (lBREAKS.map V.str)
  collectors : SqT K H0 A.tCOLLECTORS (lCOLLECTORS.map V.str)
  truths : SqT K H0 A.tTRUTHS (lTRUTHS.map V.str)
section
variable {K : PySem.W.Frag} {A : Ads} {S : Addr → Prop} {σ : L2.St} {H : Hp} {E : XK}
theorem one_of {ds : List D} {e : D} (h : ds.map fixD = [e]) : ∃ a, ds = [a] ∧ fixD a = e := by
  cases ds with
  | nil => cases h
  | cons a t =>
    cases t with
    | nil => exact ⟨a, rfl, by injection h⟩
    | cons b t => injection h with _ z; cases z
theorem two_of {ds : List D} {e g : D} (h : ds.map fixD = [e, g]) : ∃ a b, ds = [a, b] ∧ fixD a = e ∧ fixD b = g := by
  cases ds with
  | nil => cases h
  | cons a t =>
    have h1 : fixD a = e := by injection h
    have h2 : t.map fixD = [g] := by injection h
    obtain ⟨b, rfl, hb⟩ := one_of h2
    exact ⟨a, b, rfl, h1, hb⟩
theorem ev_T {a : Addr} {l : List Str} (h : SqT K H0 a (l.map V.str)) : EvD K S (tC (.ref a)) σ H (strsT l) := ev_c fun H1 => .tup (.inr h) (rpA_strs l)
theorem seq_T {l : List Str} : SeqD (strsT l) (l.map D.str) := .inr rfl
theorem teq {te : TE} {w x : Str} (m : Mem S H) (h : EvD K S te σ H (.str w)) (ow : PyData.strOk w = true) (ox : PyData.strOk x = true) : EvB (tTest (tOp (rEqD K) te (tC (.str x)))) σ H (decide (w = x)) := by
  have := eb_T (ev_op m h (ev_str (i := x)) (r_eqD (d1 := .str w) (d2 := .str x) ow ox (Nat.zero_le _) (Nat.zero_le _)))
  rwa [eqD_str] at this
theorem tne {te : TE} {w x : Str} (m : Mem S H) (h : EvD K S te σ H (.str w)) (ow : PyData.strOk w = true) (ox : PyData.strOk x = true) : EvB (tTest (tOp (rNeD K) te (tC (.str x)))) σ H (!decide (w = x)) := by
  have := eb_T (ev_op m h (ev_str (i := x)) (r_neD (d1 := .str w) (d2 := .str x) ow ox (Nat.zero_le _) (Nat.zero_le _)))
  rwa [eqD_str] at this
theorem tin2 {neg : Bool} {te : TE} {w x y : Str} (m : Mem S H) (h : EvD K S te σ H (.str w)) : EvB (tTest (tOp (rIn K neg) te (tTup (tCons (tC (.str x)) (tCons (tC (.str y)) tNil))))) σ H (if neg then !decide (w ∈ [x, y]) else decide (w ∈ [x, y])) :=
  eb_T (ev_op m h (ev_tup (ds := [x, y].map D.str) m (ea_cons m ev_str (ea_cons m ev_str ea_nil)) (by show 2 ≤ _; decide)) (r_inQ (.inr rfl)))
theorem ra_min {i j : Int} : RAD K S rMin2 H [.int i, .int j] (.int (if j < i then j else i)) := fun H1 _ vs r Q q => by
  obtain ⟨u, v, rfl, r1, r2⟩ := r.two
  cases r1; cases r2
  exact ⟨i, j, rfl, q _ _ (Evl.Ex.refl _) (.int _)⟩
theorem ra_max {i j : Int} : RAD K S rMax2 H [.int i, .int j] (.int (if j > i then j else i)) := fun H1 _ vs r Q q => by
  obtain ⟨u, v, rfl, r1, r2⟩ := r.two
  cases r1; cases r2
  exact ⟨i, j, rfl, q _ _ (Evl.Ex.refl _) (.int _)⟩
theorem ra_listQ {d : D} {ds : List D} (m : Mem S H) (hq : SeqD d ds) : RAD K S (rListOf K) H [d] (.lst ds) := fun H1 e vs r Q q => by
  obtain ⟨u, rfl, r1⟩ := r.one
  rcases hq with rfl | rfl
  · cases r1 with
    | @lst a xs _ h1 h2 => exact ⟨a, xs, rfl, .inl h1.sq, fun l hl => q _ _ (Evl.Ex.new hl) (.newL (m.ex e) h2 hl)⟩
  · cases r1 with
    | @tup a xs _ h1 h2 => exact ⟨a, xs, rfl, .inr h1.sq, fun l hl => q _ _ (Evl.Ex.new hl) (.newL (m.ex e) h2 hl)⟩
theorem r_ixQ' {d e : D} {ds : List D} {j : Nat} {i : Int} (h : SeqD d ds) (hi : i = (j : Nat)) (hj : ds[j]? = some e) : R2D K S (rIx K) H d (.int i) e := by
  subst hi; exact r_ixQ h hj
theorem ev_len {te : TE} {d : D} {ds : List D} (hq : SeqD d ds) (h : EvD K S te σ H d) : EvD K S (tCB (rLenV K) (tCons te tNil)) σ H (.int (ds.length : Nat)) := by
  have := ev_cb (ev_a1 h) (ra_len (K := K) (S := S) (lenOk_Q hq))
  rwa [lenD_Q hq] at this
theorem eq_len {te : TE} {d : D} {ds : List D} {n : Int} (m : Mem S H) (hq : SeqD d ds) (h : EvD K S te σ H d) : EvD K S (tOp (rEqD K) (tCB (rLenV K) (tCons te tNil)) (tC (.int n))) σ H (.bl (decide ((ds.length : Int) = n))) := by
  have := ev_op m (ev_len hq h) (ev_int (i := n)) (r_eqD (d1 := .int (ds.length : Nat)) (d2 := .int n) rfl rfl (Nat.zero_le _) (Nat.zero_le _))
  rwa [eqD_int] at this
theorem ev_within {te : TE} {i lo hi : Int} (m : Mem S H) (h : EvD K S te σ H (.int i)) (g1 : lo ≤ i) (g2 : i ≤ hi) : EvD K S (tCall (spWithin K) [] E (tCons te (tCons (tC (.int lo)) (tCons (tC (.int hi)) tNil)))) σ H (.bl true) := by
  refine (ev_pure m (ea_cons m h (ea_cons m ev_int (ea_cons m ev_int ea_nil))) rfl ⟨_, _, _, rfl, rfl, rfl, rfl⟩).is ?_
  show D.bl (decide (lo ≤ i) && decide (i ≤ hi)) = _
  rw [decide_eq_true g1, decide_eq_true g2]; rfl
theorem ev_listed {te : TE} {d : D} {ds : List D} (m : Mem S H) (hq : SeqD d ds) (h : EvD K S te σ H d) : EvD K S (tCall (spListed K) [] E (tCons te tNil)) σ H (.bl true) := by
  refine (ev_pure m (ev_a1 h) rfl ⟨d, rfl, base_Q hq⟩).is ?_
  show D.bl d.isLT = _
  rw [isLT_Q hq]
/-! ### kinds -/
abbrev spKind (K : PySem.W.Frag) : Sp := Pure K 2 (fun ds => ∃ (d : D) (k : Kind) (many : Int), ds = [d, .int many] ∧ fixD d = kindD k ∧ KindOk many k) T1
theorem pr_kind (vs : List V) (H : Hp) (Q : VK) (E : XK) (h : spKind K vs H Q E) : t_is_kind K A E (spPlainTuple K) (spWithin K) (spListed K) (spLot K) { nx := fun _ H' => Q .non H', rt := Q } (start ["value", "many", "lot"] vs) H := pure_of h fun S ds hn m r hp => by
  obtain ⟨d, k, many, rfl, hf, ok⟩ := hp
  obtain ⟨v, u, rfl, r1, r2⟩ := r.two
  obtain ⟨ds, hq, hm⟩ := fix_tup hf
  obtain ⟨a, b, rfl, ha, hb⟩ := two_of hm
  have ha' := fix_int ha
  subst ha'
  obtain ⟨bs, hqb, hmb⟩ := fix_tup hb
  have v0 : EvD K S (tVar 0) (start ["value", "many", "lot"] [v, u]) H d := ev_var m rfl r1
  have e0 : EvD K S (tOp (rIx K) (tVar 0) (tC (.int 0))) (start ["value", "many", "lot"] [v, u]) H (.int k.1) := ev_op m v0 ev_int (r_ixQ' (j := 0) hq rfl rfl)
  have e1 : EvD K S (tOp (rIx K) (tVar 0) (tC (.int 1))) (start ["value", "many", "lot"] [v, u]) H b := ev_op m v0 ev_int (r_ixQ' (j := 1) hq rfl rfl)
  have h1 : EvD K S (tCall (spPlainTuple K) [] E0 (tCons (tVar 0) (tCons (tC (.int 2)) tNil))) (start ["value", "many", "lot"] [v, u]) H (.bl true) := by
    refine (ev_pure m (ea_cons m v0 (ea_cons m ev_int ea_nil)) rfl ⟨d, _, rfl, base_Q hq, rfl⟩).is ?_
    show D.bl (d.isLT && decide ((lenD d : Int) = 2)) = _
    rw [isLT_Q hq, lenD_Q hq]; rfl
  refine es_ifret (b := false) ((eb_or (eb_not (eb_B h1)) fun _ => eb_or (eb_not (eb_B (ev_within m e0 ok.lo ok.hi))) fun _ => eb_not (eb_B (ev_listed m hqb e1))).is rfl) (fun z => by cases z) fun _ => es_ret ?_
  have hlen : bs.length = k.2.length := map_len hmb
  have h2 : EvD K S (tOp rLeI (tCB (rLenV K) (tCons (tOp (rIx K) (tVar 0) (tC (.int 1))) tNil)) (tCB rMin2 (tCons (tOp (rIx K) (tVar 0) (tC (.int 0))) (tCons (tC (.int 2)) tNil)))) (start ["value", "many", "lot"] [v, u]) H (.bl true) := by
    refine (ev_op m (ev_len hqb e1) (ev_cb (ea_cons m e0 (ea_cons m ev_int ea_nil)) ra_min) r_le).is ?_
    rw [decide_eq_true]
    have := ok.len
    rw [← hlen] at this
    exact this
  have l3 : k.2.length ≤ 3 := by
    have h1 := ok.len
    have h2 := ok.hi
    unfold least2 at h1
    by_cases z : (2 : Int) < k.1
    · rw [if_pos z] at h1; omega
    · rw [if_neg z] at h1; omega
  refine (ev_and h2 fun _ => ev_allT (ps := bs) (ev_map (f := fun _ => .bl true) m ((items_Q hqb) ▸ ei_seq m e1 (walks_Q hqb)) (by omega) fun S' H' m' up ex x e he rx => ?_)).is rfl
  obtain ⟨l, hl, hfl⟩ := map_mem hmb e he
  obtain ⟨es, hqe, hme⟩ := fix_tup hfl
  have hes := fix_ints hme
  subst hes
  exact ⟨rfl, ev_pure m' (ea_cons m' (ev_var (i := 2) m' rfl rx) (ea_cons m' ev_int (ea_cons m' (ev_op m' (ev_var (i := 1) m' rfl (up _ _ r2)) ev_int r_sub) ea_nil))) rfl ⟨e, l, 0, many - 1, rfl, hqe, ok.each l hl⟩⟩
abbrev spKinds (K : PySem.W.Frag) : Sp := Pure K 1 (fun ds => ∃ (d : D) (ks : List Kind), ds = [d] ∧ fixD d = kindsD ks ∧ 1 ≤ ks.length ∧ ks.length ≤ 3 ∧ ∀ k ∈ ks, KindOk (ks.length : Nat) k) T1
theorem pr_kinds (vs : List V) (H : Hp) (Q : VK) (E : XK) (h : spKinds K vs H Q E) : t_are_kinds K A E (spListed K) (spKind K) { nx := fun _ H' => Q .non H', rt := Q } (start ["value", "kind"] vs) H := pure_of h fun S ds hn m r hp => by
  obtain ⟨d, ks, rfl, hf, k1, k3, ok⟩ := hp
  obtain ⟨v, rfl, r1⟩ := r.one
  obtain ⟨ds, hq, hm⟩ := fix_tup hf
  have hlen : ds.length = ks.length := map_len hm
  have v0 : EvD K S (tVar 0) (start ["value", "kind"] [v]) H d := ev_var m rfl r1
  have h2 : EvB (tTest (tChain rLeI rLeI (tC (.int 1)) (tCB (rLenV K) (tCons (tVar 0) tNil)) (tC (.int 3)))) (start ["value", "kind"] [v]) H true := by
    refine (eb_T (ev_chain m ev_int (ev_len hq v0) r_le (fun _ => ev_int) fun _ => r_le)).is ?_
    rw [decide_eq_true (show (1 : Int) ≤ (ds.length : Nat) by omega), decide_eq_true (show ((ds.length : Nat) : Int) ≤ 3 by omega)]; rfl
  refine es_ifret (b := false) ((eb_or (eb_not (eb_B (ev_listed m hq v0))) fun _ => eb_not h2).is rfl) (fun z => by cases z) fun _ => es_ret ?_
  refine ev_allT (ps := ds) (ev_map (f := fun _ => .bl true) m ((items_Q hq) ▸ ei_seq m v0 (walks_Q hq)) (by omega) fun S' H' m' up ex x e he rx => ?_)
  obtain ⟨k, hk, hfk⟩ := map_mem hm e he
  refine ⟨rfl, ev_pure m' (ea_cons m' (ev_var (i := 1) m' rfl rx) (ea_cons m' (ev_len hq (ev_var (i := 0) m' rfl (up _ _ r1))) ea_nil)) rfl ⟨e, k, _, rfl, hfk, ?_⟩⟩
  rw [hlen]
  exact ok k hk
/-! ### collectors -/
theorem wordC_ok (c : Cl) : PyData.strOk (wordC c) = true := by cases c <;> (simp only [wordC]; decide +kernel)
abbrev spColl (K : PySem.W.Frag) : Sp := Pure K 1 (fun ds => ∃ (d : D) (c : Cl), ds = [d] ∧ fixD d = collD c ∧ CollOk c) T1
theorem pr_coll (Y : Tp A K) (vs : List V) (H : Hp) (Q : VK) (E : XK) (h : spColl K vs H Q E) : t_is_collector K A E (spListed K) (spWordLot K) (spWithin K) (spWord K) { nx := fun _ H' => Q .non H', rt := Q } (start ["value", "word", "rest"] vs) H := pure_of h fun S ds hn m r hp => by
  obtain ⟨d, c, rfl, hf, ok⟩ := hp
  obtain ⟨v, rfl, r1⟩ := r.one
  obtain ⟨ds, hq, hm⟩ := fix_tup hf
  obtain ⟨a, rs, rfl⟩ : ∃ a rs, ds = a :: rs := by
    match ds, hm with
    | a :: rs, _ => exact ⟨a, rs, rfl⟩
  have ha : fixD a = .str (wordC c) := by injection hm
  have hr : rs.map fixD = restC c := by injection hm
  have ha' := fix_str ha
  subst ha'
  have v0 : EvD K S (tVar 0) (start ["value", "word", "rest"] [v]) H d := ev_var m rfl r1
  have e0 : EvD K S (tOp (rIx K) (tVar 0) (tC (.int 0))) (start ["value", "word", "rest"] [v]) H (.str (wordC c)) := ev_op m v0 ev_int (r_ixQ' (j := 0) hq rfl rfl)
  refine es_ifret (b := false) ((eb_or (eb_not (eb_B (ev_listed m hq v0))) fun _ => eb_or (eb_T (eq_len m hq v0)) fun _ => eb_not (eb_B (r_isi e0 trivial (ki_str rfl)))).is ?_) (fun z => by cases z) fun _ => ?_
  · rw [decide_eq_false (show ¬ ((((.str (wordC c) : D) :: rs).length : Nat) : Int) = 0 by rw [List.length_cons]; omega)]; rfl
  have ht : EvD K S (tCB (rListOf K) (tCons (tSl (rSlX K) (tVar 0) (tPart (tC (.int 1))) tNoPart) tNil)) (start ["value", "word", "rest"] [v]) H (.lst rs) := ev_cb (ev_a1 (ev_tailX m hq v0)) (ra_listQ m (likeD_seq hq))
  refine es_par m (ea_cons m e0 (ea_cons m ht ea_nil)) fun vw vr H1 e1 rw' rr => ?_
  have m1 := m.ex e1
  have v1 : EvD K S (tVar 1) ((start ["value", "word", "rest"] [v]).set 1 (some vw) |>.set 2 (some vr)) H1 (.str (wordC c)) := ev_var m1 rfl rw'
  have v2 : EvD K S (tVar 2) ((start ["value", "word", "rest"] [v]).set 1 (some vw) |>.set 2 (some vr)) H1 (.lst rs) := ev_var m1 rfl rr
  have q2 : SeqD (.lst rs) rs := .inl rfl
  have wo := wordC_ok c
  have t1 : EvB _ _ _ (decide (wordC c ∈ (["none", "halves"] : List Str))) := tin2 (neg := false) (x := "none") (y := "halves") m1 v1
  have t2 := teq (x := "marks") m1 v1 wo (by decide +kernel)
  have t3 := teq (x := "counts") m1 v1 wo (by decide +kernel)
  have t4 : EvD K S (tOp (rEqD K) (tVar 1) (tC (.str "young"))) _ H1 (.bl (eqD (.str (wordC c)) (.str "young"))) := ev_op m1 v1 (ev_str (i := "young")) (r_eqD (d1 := .str (wordC c)) (d2 := .str "young") wo (by decide +kernel) (Nat.zero_le _) (Nat.zero_le _))
  have empty : rs = [] → EvD K S (tOp (rEqD K) (tVar 2) (tLst tNil)) ((start ["value", "word", "rest"] [v]).set 1 (some vw) |>.set 2 (some vr)) H1 (.bl true) := fun z => by
    subst z
    exact (ev_op m1 v2 (ev_lst m1 ea_nil (Nat.zero_le _)) (r_eqD rfl rfl (by decide) (by decide))).is rfl
  cases c with
  | none =>
    have hr0 : rs = [] := List.map_eq_nil_iff.mp hr
    exact es_ifret (b := true) (t1.is (decide_eq_true (show ("none" : Str) ∈ (["none", "halves"] : List Str) by decide +kernel))) (fun _ => es_ret (empty hr0)) fun z => by cases z
  | halves =>
    have hr0 : rs = [] := List.map_eq_nil_iff.mp hr
    exact es_ifret (b := true) (t1.is (decide_eq_true (show ("halves" : Str) ∈ (["none", "halves"] : List Str) by decide +kernel))) (fun _ => es_ret (empty hr0)) fun z => by cases z
  | marks gs =>
    refine es_ifret (b := false) (t1.is (decide_eq_false (show ¬ ("marks" : Str) ∈ (["none", "halves"] : List Str) by decide +kernel))) (fun z => by cases z) fun _ => ?_
    refine es_ifret (b := true) (t2.is (decide_eq_true (show ("marks" : Str) = "marks" by decide +kernel))) (fun _ => es_ret ?_) fun z => by cases z
    obtain ⟨g, rfl, hg⟩ := one_of (e := strsT gs) hr
    obtain ⟨es, hqe, hme⟩ := fix_tup hg
    have hes := fix_strs hme
    subst hes
    refine (ev_and (eq_len m1 q2 v2) fun _ => ev_pure m1 (ea_cons m1 (ev_op m1 v2 ev_int (r_ixQ' (j := 0) q2 rfl rfl)) (ea_cons m1 (ev_T Y.guards) ea_nil)) rfl ⟨g, _, gs, lGUARDS, rfl, hqe, seq_T, ok⟩).is rfl
  | counts o w =>
    refine es_ifret (b := false) (t1.is (decide_eq_false (show ¬ ("counts" : Str) ∈ (["none", "halves"] : List Str) by decide +kernel))) (fun z => by cases z) fun _ => ?_
    refine es_ifret (b := false) (t2.is (decide_eq_false (show ¬ ("counts" : Str) = "marks" by decide +kernel))) (fun z => by cases z) fun _ => ?_
    refine es_ifret (b := true) (t3.is (decide_eq_true (show ("counts" : Str) = "counts" by decide +kernel))) (fun _ => es_ret ?_) fun z => by cases z
    obtain ⟨g, g', rfl, hg, hg'⟩ := two_of (e := optD o) (g := .str w) hr
    have z1 := fix_opt hg
    have z2 := fix_str hg'
    subst z1; subst z2
    have a0 : EvD K S (tOp (rIx K) (tVar 2) (tC (.int 0))) ((start ["value", "word", "rest"] [v]).set 1 (some vw) |>.set 2 (some vr)) H1 (optD o) := ev_op m1 v2 ev_int (r_ixQ' (j := 0) q2 rfl rfl)
    have a1 : EvD K S (tOp (rIx K) (tVar 2) (tC (.int 1))) ((start ["value", "word", "rest"] [v]).set 1 (some vw) |>.set 2 (some vr)) H1 (.str w) := ev_op m1 v2 ev_int (r_ixQ' (j := 1) q2 rfl rfl)
    have hw : EvD K S (tCall (spWord K) [] E0 (tCons (tOp (rIx K) (tVar 2) (tC (.int 1))) (tCons (tC (.ref A.tORDERS)) tNil))) ((start ["value", "word", "rest"] [v]).set 1 (some vw) |>.set 2 (some vr)) H1 (.bl true) := ev_pure m1 (ea_cons m1 a1 (ea_cons m1 (ev_T Y.orders) ea_nil)) rfl ⟨w, lORDERS, _, rfl, seq_T, ok.2⟩
    have ho : EvD K S (tOrV (tOp rIsN (tOp (rIx K) (tVar 2) (tC (.int 0))) (tC .non)) (tCall (spWithin K) [] E0 (tCons (tOp (rIx K) (tVar 2) (tC (.int 0))) (tCons (tC (.int 1)) (tCons (tC (.int 3)) tNil))))) ((start ["value", "word", "rest"] [v]).set 1 (some vw) |>.set 2 (some vr)) H1 (.bl true) := by
      have hn := ev_op m1 a0 ev_non (r_isN (K := K) (S := S))
      cases o with
      | none => exact (ev_or (b := true) hn fun z => by cases z).is rfl
      | some i => exact (ev_or (b := true) hn fun _ => ev_within m1 a0 (ok.1 i rfl).1 (ok.1 i rfl).2).is rfl
    exact (ev_and (eq_len m1 q2 v2) fun _ => ev_and ho fun _ => hw).is rfl
  | young n w =>
    refine es_ifret (b := false) (t1.is (decide_eq_false (show ¬ ("young" : Str) ∈ (["none", "halves"] : List Str) by decide +kernel))) (fun z => by cases z) fun _ => ?_
    refine es_ifret (b := false) (t2.is (decide_eq_false (show ¬ ("young" : Str) = "marks" by decide +kernel))) (fun z => by cases z) fun _ => ?_
    refine es_ifret (b := false) (t3.is (decide_eq_false (show ¬ ("young" : Str) = "counts" by decide +kernel))) (fun z => by cases z) fun _ => es_ret ?_
    obtain ⟨g, g', rfl, hg, hg'⟩ := two_of (e := .int n) (g := .str w) hr
    have z1 := fix_int hg
    have z2 := fix_str hg'
    subst z1; subst z2
    have a0 : EvD K S (tOp (rIx K) (tVar 2) (tC (.int 0))) ((start ["value", "word", "rest"] [v]).set 1 (some vw) |>.set 2 (some vr)) H1 (.int n) := ev_op m1 v2 ev_int (r_ixQ' (j := 0) q2 rfl rfl)
    have a1 : EvD K S (tOp (rIx K) (tVar 2) (tC (.int 1))) ((start ["value", "word", "rest"] [v]).set 1 (some vw) |>.set 2 (some vr)) H1 (.str w) := ev_op m1 v2 ev_int (r_ixQ' (j := 1) q2 rfl rfl)
    have hw : EvD K S (tCall (spWord K) [] E0 (tCons (tOp (rIx K) (tVar 2) (tC (.int 1))) (tCons (tC (.ref A.tREMEMBERS)) tNil))) ((start ["value", "word", "rest"] [v]).set 1 (some vw) |>.set 2 (some vr)) H1 (.bl true) := ev_pure m1 (ea_cons m1 a1 (ea_cons m1 (ev_T Y.remembers) ea_nil)) rfl ⟨w, lREMEMBERS, _, rfl, seq_T, ok.2⟩
    have hi : EvD K S (tCall (spWithin K) [] E0 (tCons (tOp (rIx K) (tVar 2) (tC (.int 0))) (tCons (tC (.int 1)) (tCons (tOp rSubI (tC (.int 12)) (tC (.int 1))) tNil)))) ((start ["value", "word", "rest"] [v]).set 1 (some vw) |>.set 2 (some vr)) H1 (.bl true) := by
      refine (ev_pure m1 (ea_cons m1 a0 (ea_cons m1 ev_int (ea_cons m1 (ev_op m1 ev_int ev_int r_sub) ea_nil))) rfl ⟨_, _, _, rfl, rfl, rfl, rfl⟩).is ?_
      show D.bl (decide ((1 : Int) ≤ n) && decide (n ≤ 12 - 1)) = _
      rw [decide_eq_true ok.1.1, decide_eq_true (show n ≤ 12 - 1 from ok.1.2)]; rfl
    exact (ev_and t4 fun _ => ev_and (eq_len m1 q2 v2) fun _ => ev_and hi fun _ => hw).is (by
      rw [show eqD (.str (wordC (.young n w))) (.str "young") = true from (eqD_str _ _).trans (decide_eq_true (show ("young" : Str) = "young" from rfl))]; rfl)
/-! ### need_parts -/
abbrev rowT (w : Str) : D := .tup [.str w, .bl true]
abbrev spNeedParts (K : PySem.W.Frag) : Sp := Pure K 1 (fun ds => ∃ ws : List Str, ds = [.lst (ws.map rowT)] ∧ ws.length ≤ 100) (fun _ => .non)
theorem pr_needparts (vs : List V) (H : Hp) (Q : VK) (E : XK) (h : spNeedParts K vs H Q E) : t_need_parts K A E { nx := fun _ H' => Q .non H', rt := Q } (start ["rows", "part", "is_right"] vs) H := by
  obtain ⟨S, ds, hn, m, r, ⟨ws, rfl, hl⟩, k⟩ := h
  obtain ⟨v, rfl, r1⟩ := r.one
  have hi := ei_seq m (ev_var (i := 0) (σ := start ["rows", "part", "is_right"] [v]) m rfl r1) rfl
  refine ts_for hi fun H2 e2 => ⟨fun i σ' H' => Ex H2 H' ∧ ∃ a b, σ' = [some v, a, b], ⟨Evl.Ex.refl _, none, none, rfl⟩, fun i σ' H' p => ⟨S, (m.ex e2).ex p.1, Up.ex (m.ex e2) p.1⟩, fun i d σ' H' hd p x H'' ex hx => ?_, fun σ' H' p => k _ _ (e2.trans p.1) .non⟩
  obtain ⟨p1, a, b, rfl⟩ := p
  have m' := (m.ex e2).ex p1
  have rx := hx S m' (Up.ex (m.ex e2) p1)
  have hd' : (ws.map rowT)[i]? = some d := hd
  rw [List.getElem?_map, Option.map_eq_some_iff] at hd'
  obtain ⟨w, hw, rfl⟩ := hd'
  refine g2_of rx fun z1 z2 q1 q2 => ?_
  have m2 := m'.ex ex
  refine ts_if (eb_not (eb_B (ev_var (K := K) (S := S) (i := 2) m2 rfl q2))) fun H3 e3 => ?_
  rw [if_neg (by decide)]
  exact ⟨(p1.trans ex).trans e3, _, _, rfl⟩
end
end Nv
set_option Elab.async false
set_option linter.all false
set_option maxRecDepth 100000
set_option maxHeartbeats 4000000
/-! Promises: the house. -/
namespace Nv
open PySem PySem.Spec PyProof.Rows L2 StX NvZ
def hF : List Str := ["cells", "kinds", "registers", "live", "rooms", "collector", "word", "pace", "need", "slide", "asked"]
/-- q holds the house h -/
def HouseF (K : PySem.W.Frag) (A : Ads) (S : Addr → Prop) (H : Hp) (q : Addr) (h : Hs) : Prop := ∃ dx vs, H q = some (.ins A.cHouse dx (hF.zip vs)) ∧ RpA K S H vs (hsD h)
def HouseAt (K : PySem.W.Frag) (A : Ads) (S : Addr → Prop) (H : Hp) (q : Addr) (h : Hs) : Prop := ¬ S q ∧ HouseF K A S H q h
structure Hx (A : Ads) (K : PySem.W.Frag) : Prop where
  cl : Cls K A.cHouse
  na : ∀ f ∈ hF, NoAttr K A.cHouse f
  ins : InsC K A.cHouse
  self : PySem.W.kitOne K (.ref A.cHouse) (.ref A.cHouse) = some true
  base : ∀ d : D, d.base = true → PySem.W.kitOne K (typ d) (.ref A.cHouse) = some false
/-! ### what fits -/
def mf1 (h : Hs) : Bool := (decide (wordC h.coll = "halves") && !decide (h.rooms = "first")) || (decide (wordC h.coll = "young") && !decide (h.rooms ∈ lROOMS.take 4))
def mf2 (h : Hs) : Bool := !decide (h.pace = some 0) && !decide (wordC h.coll = "marks")
def mf3 (h : Hs) : Bool := !decide (h.need = "finish") && decide (wordC h.coll ∈ (["halves", "young"] : List Str))
def mf4 (h : Hs) : Bool := h.slide && (!decide (wordC h.coll ∈ (["counts", "marks"] : List Str)) || !decide (h.need = "finish"))
def yGe (h : Hs) : Bool := match h.coll with
  | .young n _ => decide (h.cells ≤ n)
  | _ => false
def mf5 (h : Hs) : Bool := (decide (wordC h.coll = "halves") && decide (h.cells < 2)) || (decide (wordC h.coll = "young") && yGe h)
structure Fits (h : Hs) : Prop where
  m1 : mf1 h = false
  m2 : mf2 h = false
  m3 : mf3 h = false
  m4 : mf4 h = false
  m5 : mf5 h = false
theorem mem_ok {l : List Str} (hl : ∀ x ∈ l, PyData.strOk x = true) {x : Str} (h : x ∈ l) : PyData.strOk x = true := hl x h
theorem rooms_ok {h : Hs} (P : PartsOk h) : PyData.strOk h.rooms = true := mem_ok (by decide +kernel) P.rooms
theorem need_ok {h : Hs} (P : PartsOk h) : PyData.strOk h.need = true := mem_ok (by decide +kernel) P.need
section
variable {K : PySem.W.Frag} {A : Ads} {S : Addr → Prop} {σ : L2.St} {H H' : Hp} {E : XK} {q : Addr} {h : Hs}
theorem zip_rp : ∀ {fs : List Str} {vs : List V} {ds : List D} {f : Str} {d : D}, RpA K S H vs ds → (fs.zip ds).lookup f = some d → ∃ v, (fs.zip vs).lookup f = some v ∧ Rp K S H v d
  | [], _, _, _, _, _, e => by cases e
  | g :: fs, _, _, f, d, .nil, e => by cases e
  | g :: fs, _, _, f, d, .cons r t, e => by
    simp only [List.zip_cons_cons, List.lookup_cons] at e ⊢
    cases hfg : f == g with
    | true =>
      rw [hfg] at e
      cases e
      exact ⟨_, rfl, r⟩
    | false =>
      rw [hfg] at e
      exact zip_rp t e
theorem zip_none {f : Str} : ∀ {fs : List Str} {vs : List V}, f ∉ fs → (fs.zip vs).lookup f = none
  | [], _, _ => by cases ‹List V› <;> rfl
  | _ :: _, [], _ => rfl
  | g :: fs, v :: vs, h => by
    simp only [List.zip_cons_cons, List.lookup_cons]
    have h1 : f ≠ g := fun z => h (by rw [z]; exact List.mem_cons_self ..)
    rw [show (f == g) = false from beq_false_of_ne h1]
    exact zip_none fun z => h (List.mem_cons_of_mem _ z)
theorem HouseF.mono (e : ExS S H H') (n : ¬ S q) (a : HouseF K A S H q h) : HouseF K A S H' q h := by
  obtain ⟨dx, vs, h1, h2⟩ := a
  exact ⟨dx, vs, e.1 _ _ n h1, h2.mono e⟩
theorem HouseF.ex (m : Mem S H) (e : Ex H H') (a : HouseF K A S H q h) : HouseF K A S H' q h := by
  obtain ⟨dx, vs, h1, h2⟩ := a
  exact ⟨dx, vs, e _ _ h1, h2.mono (.of m e)⟩
theorem HouseAt.mono (e : ExS S H H') (a : HouseAt K A S H q h) : HouseAt K A S H' q h := ⟨a.1, a.2.mono e a.1⟩
theorem HouseF.fld {i : Nat} {f : Str} {d : D} (X : Hx A K) (m : Mem S H) (a : HouseF K A S H q h) (hσ : σ[i]? = some (some (.ref q))) (hm : f ∈ hF) (hf : (hF.zip (hsD h)).lookup f = some d) : EvD K S (tFld K (tVar i) f) σ H d := by
  obtain ⟨dx, vs, h1, h2⟩ := a
  obtain ⟨v, hv, rv⟩ := zip_rp h2 hf
  exact ev_fld m hσ h1 X.cl (X.na f hm) hv rv
/-! ### misfit_of -/
def spMisfit (K : PySem.W.Frag) (A : Ads) : Sp := fun vs H Q _ => ∃ S q h, vs = [.ref q] ∧ Mem S H ∧ HouseF K A S H q h ∧ PartsOk h ∧ Fits h ∧ ∀ H', Ex H H' → Q .non H'
theorem eqD_opt (o : Option Int) (i : Int) : eqD (optD o) (.int i) = decide (o = some i) := by
  cases o with
  | none => rfl
  | some j =>
    show eqD (.int j) (.int i) = _
    rw [eqD_int]
    simp
theorem pr_misfit (X : Hx A K) (Y : Tp A K) (vs : List V) (H : Hp) (Q : VK) (E : XK) (hh : spMisfit K A vs H Q E) : t_misfit_of K A E { nx := fun _ H' => Q .non H', rt := Q } (start ["house", "word"] vs) H := by
  obtain ⟨S, q, h, rfl, m, a, P, F, k⟩ := hh
  show t_misfit_of K A E { nx := fun _ H' => Q .non H', rt := Q } [some (.ref q), none] H
  refine ts_set (a.fld (i := 0) (f := "word") (d := .str (wordC h.coll)) X m rfl (by decide) rfl) fun vw H1 e1 rw1 => ?_
  have m1 := m.ex e1
  have a1 := a.ex m e1
  cases rw1
  have wo := wordC_ok h.coll
  have v1 : ∀ {G : Hp}, Mem S G → EvD K S (tVar 1) [some (.ref q), some (.str (wordC h.coll))] G (.str (wordC h.coll)) := fun mg => ev_var (i := 1) mg rfl (.str _)
  have fl : ∀ {G : Hp} {f : Str} {d : D}, Ex H1 G → f ∈ hF → (hF.zip (hsD h)).lookup f = some d → EvD K S (tFld K (tVar 0) f) [some (.ref q), some (.str (wordC h.coll))] G d := fun eg hm hf => (a1.ex m1 eg).fld X (m1.ex eg) rfl hm hf
  have rm : ∀ {G : Hp}, Ex H1 G → EvD K S (tFld K (tVar 0) "rooms") [some (.ref q), some (.str (wordC h.coll))] G (.str h.rooms) := fun eg => fl eg (by decide) rfl
  have nd : ∀ {G : Hp}, Ex H1 G → EvD K S (tFld K (tVar 0) "need") [some (.ref q), some (.str (wordC h.coll))] G (.str h.need) := fun eg => fl eg (by decide) rfl
  have cells : ∀ {G : Hp}, Ex H1 G → EvD K S (tFld K (tVar 0) "cells") [some (.ref q), some (.str (wordC h.coll))] G (.int h.cells) := fun eg => fl eg (by decide) rfl
  -- the first
  have g1 : EvB _ _ H1 (mf1 h) := eb_or (eb_and (teq (x := "halves") m1 (v1 m1) wo (by decide +kernel)) fun _ => tne (x := "first") m1 (rm (Evl.Ex.refl _)) (rooms_ok P) (by decide +kernel))
    fun _ => eb_and (teq (x := "young") m1 (v1 m1) wo (by decide +kernel)) fun _ => eb_T (ev_op m1 (rm (Evl.Ex.refl _)) (ev_slX (hi := some ((4 : Nat) : Int)) m1 seq_T (ev_T Y.rooms) eo_none (eo_some (K := K) (S := S) ev_int)) (r_inQ (neg := true) (ws := lROOMS.take 4) (by
      have := likeD_seq (es := cutD (lROOMS.map D.str) none (some ((4 : Nat) : Int))) (seq_T (l := lROOMS))
      rwa [cut_to (by decide), ← List.map_take] at this)))
  refine ts_ifseq (g1.is F.m1) fun H2 e2 => ?_
  rw [if_neg Bool.false_ne_true]
  have m2 := m1.ex e2
  have g2 : EvB _ _ H2 (mf2 h) := eb_and ((eb_T (ev_op m2 (fl (f := "pace") (d := optD h.pace) e2 (by decide) rfl) (ev_int (i := 0)) (r_neD (by cases h.pace <;> rfl) rfl (by cases h.pace <;> exact Nat.zero_le _) (Nat.zero_le _)))).is (by rw [eqD_opt]))
    fun _ => tne (x := "marks") m2 (v1 m2) wo (by decide +kernel)
  refine tn_seq (ts_ifseq (g2.is F.m2) fun H3 e3 => ?_)
  rw [if_neg Bool.false_ne_true]
  have m3 := m2.ex e3
  have g3 : EvB _ _ H3 (mf3 h) := eb_and (tne (x := "finish") m3 (nd (e2.trans e3)) (need_ok P) (by decide +kernel)) fun _ => tin2 (neg := false) m3 (v1 m3)
  refine tn_seq (ts_ifseq (g3.is F.m3) fun H4 e4 => ?_)
  rw [if_neg Bool.false_ne_true]
  have m4 := m3.ex e4
  have e14 := (e2.trans e3).trans e4
  have g4 : EvB _ _ H4 (mf4 h) := eb_and (eb_B (fl (f := "slide") (d := .bl h.slide) e14 (by decide) rfl)) fun _ => eb_or (tin2 (neg := true) m4 (v1 m4)) fun _ => tne (x := "finish") m4 (nd e14) (need_ok P) (by decide +kernel)
  refine tn_seq (ts_ifseq (g4.is F.m4) fun H5 e5 => ?_)
  rw [if_neg Bool.false_ne_true]
  have m5 := m4.ex e5
  have e15 := e14.trans e5
  have g5 : EvB _ _ H5 (mf5 h) := eb_or (eb_and (teq (x := "halves") m5 (v1 m5) wo (by decide +kernel)) fun _ => eb_T (ev_op m5 (cells e15) (ev_int (i := 2)) r_lt))
    fun _ => eb_and (teq (x := "young") m5 (v1 m5) wo (by decide +kernel)) fun hy => by
      have hw : wordC h.coll = "young" := of_decide_eq_true hy
      have hcoll : ∃ n r, h.coll = .young n r := by
        cases hc : h.coll with
        | young n r => exact ⟨n, r, rfl⟩
        | none => rw [hc] at hw; exact absurd hw (show ¬ ("none" : Str) = "young" by decide +kernel)
        | halves => rw [hc] at hw; exact absurd hw (show ¬ ("halves" : Str) = "young" by decide +kernel)
        | counts _ _ => rw [hc] at hw; exact absurd hw (show ¬ ("counts" : Str) = "young" by decide +kernel)
        | marks _ => rw [hc] at hw; exact absurd hw (show ¬ ("marks" : Str) = "young" by decide +kernel)
      obtain ⟨n, r, hc⟩ := hcoll
      have hce : EvD K S (tFld K (tVar 0) "collector") [some (.ref q), some (.str (wordC h.coll))] H5 (collD h.coll) := fl e15 (by decide) rfl
      have hcn : EvD K S (tOp (rIx K) (tFld K (tVar 0) "collector") (tC (.int 1))) [some (.ref q), some (.str (wordC h.coll))] H5 (.int n) := ev_op m5 hce ev_int (r_ixQ' (j := 1) (.inr rfl) rfl (by rw [hc]; rfl))
      refine (eb_T (ev_op m5 hcn (cells e15) r_ge)).is ?_
      show _ = yGe h
      unfold yGe
      rw [hc]
  refine tn_seq (ts_ifseq (g5.is F.m5) fun H6 e6 => ?_)
  rw [if_neg Bool.false_ne_true]
  exact k H6 (e1.trans (e15.trans e6))
/-! ### row, == -/
def rowL (h : Hs) : List D := [.int h.cells, kindsD h.kinds, .int h.registers, .int h.live, .str h.rooms, collD h.coll, optD h.pace, .str h.need, .bl h.slide, strsT h.asked]
def spRow (K : PySem.W.Frag) (A : Ads) : Sp := fun vs H Q _ => ∃ S q h, vs = [.ref q] ∧ Mem S H ∧ HouseF K A S H q h ∧ ∀ v H', Ex H H' → Rp K S H' v (.tup (rowL h)) → Q v H'
theorem pr_row (X : Hx A K) (vs : List V) (H : Hp) (Q : VK) (E : XK) (hh : spRow K A vs H Q E) : t_House_row K A E { nx := fun _ H' => Q .non H', rt := Q } (start ["self", "first"] vs) H := by
  obtain ⟨S, q, h, rfl, m, a, k⟩ := hh
  show t_House_row K A E { nx := fun _ H' => Q .non H', rt := Q } [some (.ref q), none] H
  have fl : ∀ {f : Str} {d : D}, f ∈ hF → (hF.zip (hsD h)).lookup f = some d → EvD K S (tFld K (tVar 0) f) [some (.ref q), none] H d := fun hm hf => a.fld X m rfl hm hf
  refine ts_set (d := .tup [.int h.cells, kindsD h.kinds, .int h.registers, .int h.live, .str h.rooms, collD h.coll]) (ev_tup m (ea_cons m (fl (by decide) rfl) (ea_cons m (fl (by decide) rfl) (ea_cons m (fl (by decide) rfl) (ea_cons m (fl (by decide) rfl) (ea_cons m (fl (by decide) rfl) (ea_cons m (fl (by decide) rfl) ea_nil)))))) (by show 6 ≤ _; decide)) fun v H1 e1 r1 => ?_
  have m1 := m.ex e1
  have a1 := a.ex m e1
  have fl1 : ∀ {f : Str} {d : D}, f ∈ hF → (hF.zip (hsD h)).lookup f = some d → EvD K S (tFld K (tVar 0) f) [some (.ref q), some v] H1 d := fun hm hf => a1.fld X m1 rfl hm hf
  refine ts_ret (K := K) (S := S) (d := .tup (rowL h)) (ev_tup m1 (ea_starT m1 (ev_var (i := 1) m1 rfl r1) (ea_cons m1 (fl1 (d := optD h.pace) (by decide) rfl) (ea_cons m1 (fl1 (d := .str h.need) (by decide) rfl) (ea_cons m1 (fl1 (d := .bl h.slide) (by decide) rfl) (ea_cons m1 (fl1 (d := strsT h.asked) (by decide) rfl) ea_nil))))) (by show 10 ≤ _; decide)) fun v2 H2 e2 r2 => k v2 H2 (e1.trans e2) r2
theorem ev_rowm {i : Nat} (m : Mem S H) (hσ : σ[i]? = some (some (.ref q))) (a : HouseF K A S H q h) : EvD K S (tMeth A.cHouse "row" (spRow K A) [] E0 (tVar i) tNil) σ H (.tup (rowL h)) := fun H1 e Q k => by
  obtain ⟨dx, vs, h1, h2⟩ := id (a.ex m e)
  exact ⟨.ref q, hσ, q, dx, _, rfl, h1, zip_none (by decide), S, q, h, rfl, m.ex e, a.ex m e, fun v H2 e2 r2 => k v H2 e2 r2⟩
theorem HouseAt.rp (a : HouseAt K A S H q h) : Rp K S H (.ref q) (.ins A.cHouse) := by
  obtain ⟨n, dx, vs, h1, h2⟩ := a
  exact .ins h1 n
def plainH (h : Hs) : Prop := plainD (.tup (rowL h)) = true ∧ dep (.tup (rowL h)) ≤ 64
def spEqH (K : PySem.W.Frag) (A : Ads) : Sp := fun vs H Q _ => ∃ S a b h g, vs = [.ref a, .ref b] ∧ Mem S H ∧ HouseAt K A S H a h ∧ HouseAt K A S H b g ∧ plainH h ∧ plainH g ∧ ∀ H', Ex H H' → Q (.bl (eqD (.tup (rowL h)) (.tup (rowL g)))) H'
theorem pr_eqH (X : Hx A K) (vs : List V) (H : Hp) (Q : VK) (E : XK) (hh : spEqH K A vs H Q E) : t_House___eq__ K A E (spRow K A) { nx := fun _ H' => Q .non H', rt := Q } (start ["self", "other"] vs) H := by
  obtain ⟨S, p, q, h, g, rfl, m, a, b, ph, pg, k⟩ := hh
  show t_House___eq__ K A E (spRow K A) { nx := fun _ H' => Q .non H', rt := Q } [some (.ref p), some (.ref q)] H
  refine ts_ifseq (eb_not (eb_B (r_isiC (ev_var (i := 1) (σ := [some (.ref p), some (.ref q)]) m rfl b.rp) X.ins X.self))) fun H1 e1 => ?_
  rw [if_neg (by decide)]
  have m1 := m.ex e1
  refine ts_ret (K := K) (S := S) (ev_op m1 (ev_rowm (i := 0) m1 rfl (a.2.ex m e1)) (ev_rowm (i := 1) m1 rfl (b.2.ex m e1)) (r_eqD ph.1 pg.1 ph.2 pg.2)) fun v H2 e2 r2 => ?_
  cases r2
  exact k H2 (e1.trans e2)
/-! ### need_house -/
theorem ts_raiseS {C : Addr} {f : Str} {W : WX} {te : TE} {x : Str} {D0 : Ends} (h : EvD K S te σ H (.str x)) (hl : x.length ≤ 2000)
    (k : ∀ p H', Ex H H' → H p = none → H' p = some (.xd [(f, .str x)]) → W (.ref C) (some p) σ H') : tRaiseX C [f] W (tCons te tNil) D0 σ H := h H (Evl.Ex.refl _) _ fun v H1 e1 r1 => by
  cases r1
  refine ⟨rfl, fun v hv => ?_, fun d hd => ?_⟩
  · have : v = .str x := by simpa using hv
    exact .inl ⟨x, this, hl⟩
  · refine k d _ (e1.trans (Evl.Ex.new hd)) ?_ upd_same
    cases z : H d with
    | none => rfl
    | some o => rw [e1 _ _ z] at hd; cases hd
def spNeedHouse (K : PySem.W.Frag) (A : Ads) : Sp := fun vs H Q E => ∃ S v p, vs = [v, .str p] ∧ Mem S H ∧ p.length ≤ 2000 ∧
  ((∃ q h, v = .ref q ∧ HouseAt K A S H q h ∧ ∀ H', Ex H H' → Q .non H') ∨
   (∃ d, Rp K S H v d ∧ d.base = true ∧ ∀ e H', Ex H H' → H e = none → H' e = some (.xd [("part", .str p)]) → E (.ref A.cBadHouse) (some e) H'))
theorem pr_needhouse (X : Hx A K) (vs : List V) (H : Hp) (Q : VK) (E : XK) (hh : spNeedHouse K A vs H Q E) : t_need_house K A E { nx := fun _ H' => Q .non H', rt := Q } (start ["value", "part"] vs) H := by
  obtain ⟨S, v, p, rfl, m, hp, hh⟩ := hh
  show t_need_house K A E { nx := fun _ H' => Q .non H', rt := Q } [some v, some (.str p)] H
  rcases hh with ⟨q, h, rfl, a, k⟩ | ⟨d, r, hb, k⟩
  · refine ts_if (eb_not (eb_B (r_isiC (ev_var (i := 0) m rfl a.rp) X.ins X.self))) fun H1 e1 => ?_
    rw [if_neg (by decide)]
    exact k H1 e1
  · refine ts_if (eb_not (eb_B (r_isiC (ev_var (i := 0) m rfl r) (okT_base hb) (X.base d hb)))) fun H1 e1 => ?_
    rw [if_pos (by decide)]
    refine ts_raiseS (K := K) (S := S) (ev_var (i := 1) (m.ex e1) rfl (.str p)) hp fun e H2 e2 hn hx => k e H2 (e1.trans e2) ?_ hx
    cases z : H e with
    | none => rfl
    | some o => rw [e1 _ _ z] at hn; cases hn
end
end Nv
set_option Elab.async false
set_option linter.all false
set_option maxRecDepth 100000
set_option maxHeartbeats 4000000
/-! Promises: House(..). -/
namespace Nv
open PySem PySem.Spec PyProof.Rows L2 StX NvZ
theorem putF_new {f : Str} {y : V} : ∀ {fs : List (Str × V)}, (∀ p ∈ fs, p.1 ≠ f) → putF f y fs = fs ++ [(f, y)]
  | [], _ => rfl
  | p :: fs, h => by
    have h1 : p.1 ≠ f := h p (List.mem_cons_self ..)
    have h2 := putF_new (y := y) fun q hq => h q (List.mem_cons_of_mem _ hq)
    obtain ⟨g, u⟩ := p
    unfold putF
    first
      | (rw [if_neg h1, h2]; rfl)
      | (rw [if_neg (by simpa using h1), h2]; rfl)
      | (simp [h1, h2])
theorem okFA_map {α : Type} {f : α → D} : ∀ {l : List α}, (∀ a ∈ l, okF (f a) = true) → okFA (l.map f) = true
  | [], _ => rfl
  | a :: l, h => by
    show (okF (f a) && okFA (l.map f)) = true
    rw [h a (List.mem_cons_self ..), okFA_map fun b hb => h b (List.mem_cons_of_mem _ hb)]; rfl
theorem depA_map {α : Type} {f : α → D} {n : Nat} : ∀ {l : List α}, (∀ a ∈ l, dep (f a) ≤ n) → depA (l.map f) ≤ n
  | [], _ => Nat.zero_le _
  | a :: l, h => Nat.max_le.mpr ⟨h a (List.mem_cons_self ..), depA_map fun b hb => h b (List.mem_cons_of_mem _ hb)⟩
theorem okF_tup {α : Type} {f : α → D} {l : List α} (hl : l.length ≤ 100000) (h : ∀ a ∈ l, okF (f a) = true) : okF (.tup (l.map f)) = true := by
  show (decide ((l.map f).length ≤ 100000) && okFA (l.map f)) = true
  rw [okFA_map h, List.length_map, decide_eq_true hl]; rfl
theorem dep_tup {α : Type} {f : α → D} {n : Nat} {l : List α} (h : ∀ a ∈ l, dep (f a) ≤ n) : dep (.tup (l.map f)) ≤ n + 1 := Nat.succ_le_succ (depA_map h)
theorem kind_links {many : Int} {k : Kind} (ok : KindOk many k) : k.2.length ≤ 3 := by
  have h1 := ok.len
  have h2 := ok.hi
  unfold least2 at h1
  by_cases z : (2 : Int) < k.1
  · rw [if_pos z] at h1; omega
  · rw [if_neg z] at h1; omega
theorem okF_kind {many : Int} {k : Kind} (ok : KindOk many k) : okF (kindD k) = true := by
  have h : okF (.tup (k.2.map intsD)) = true := okF_tup (by have := kind_links ok; omega) fun l hl => okF_tup (by have := (ok.each l hl).len; omega) fun _ _ => rfl
  show (true && (true && (okF (.tup (k.2.map intsD)) && true))) = true
  rw [h]; rfl
theorem dep_kind (k : Kind) : dep (kindD k) ≤ 3 := by
  have h : dep (.tup (k.2.map intsD)) ≤ 1 + 1 := dep_tup fun l _ => dep_tup (n := 0) fun _ _ => Nat.le_refl _
  show max 0 (max (dep (.tup (k.2.map intsD))) 0) + 1 ≤ 3
  omega
theorem okF_kinds {h : Hs} (P : PartsOk h) : okF (kindsD h.kinds) = true ∧ dep (kindsD h.kinds) ≤ 4 := ⟨okF_tup (by have := P.k2; omega) fun k hk => okF_kind (P.kinds k hk), dep_tup fun k _ => dep_kind k⟩
theorem okF_strs {l : List Str} (hl : l.length ≤ 1000) : okF (strsT l) = true ∧ dep (strsT l) ≤ 1 := ⟨okF_tup (by omega) fun _ _ => rfl, dep_tup (n := 0) fun _ _ => Nat.le_refl _⟩
theorem okF_coll {c : Cl} (ok : CollOk c) : okF (collD c) = true ∧ dep (collD c) ≤ 2 := by
  cases c with
  | none => exact ⟨rfl, by decide⟩
  | halves => exact ⟨rfl, by decide⟩
  | counts m o => cases m <;> exact ⟨rfl, by show (1 : Nat) ≤ 2; decide⟩
  | young n r => exact ⟨rfl, by show (1 : Nat) ≤ 2; decide⟩
  | marks gs =>
    have := okF_strs (show gs.length ≤ 1000 from WLotOk.len ok)
    refine ⟨?_, ?_⟩
    · show (true && (true && (okF (strsT gs) && true))) = true
      rw [this.1]; rfl
    · show max 0 (max (dep (strsT gs)) 0) + 1 ≤ 2
      omega
section
variable {K : PySem.W.Frag} {A : Ads} {S : Addr → Prop} {σ : L2.St} {H H' : Hp} {E : XK} {x : Addr} {h : Hs}
theorem ev_fixed {te : TE} {d : D} (m : Mem S H) (he : EvD K S te σ H d) (ho : okF (fixD d) = true ∧ dep (fixD d) ≤ 11) : EvD K S (tCall (spFixed K 13) [] E0 (tCons te tNil)) σ H (fixD d) :=
  ev_pure m (ev_a1 he) rfl ⟨d, rfl, by rw [← okF_fix]; exact ho.1, by rw [← dep_fix]; have := ho.2; omega⟩
/-! ### a list that is being made -/
theorem ts_extD {i : Nat} {p : Addr} {vs : List V} {ds es : List D} {te : TE} {r : TS} {D0 : Ends} (m : Mem S H) (hσ : σ[i]? = some (some (.ref p))) (hp : H p = some (.lst vs)) (sp : S p) (r0 : RpA K S H vs ds) (he : EvD K S te σ H (.lst es)) (hl : ds.length + es.length ≤ 1000)
    (k : ∀ ws H1, Ex1 p H H1 → Mem S H1 → Up K S H S H1 → H1 p = some (.lst ws) → RpA K S H1 ws (ds ++ es) → r D0 σ H1) : tSeq (tDrop (tBM K "list" rExtend (tVar i) (tCons te tNil))) r D0 σ H :=
  ⟨.ref p, hσ, .inl ⟨rfl, vs, .inl (.inl hp)⟩, he H (Evl.Ex.refl _) _ fun v H1 e1 r1 => by
    have m1 := m.ex e1
    have rA := r0.mono (.of m e1)
    cases r1 with
    | @lst a xs _ h1 h2 =>
      have put : ExS S H1 (upd H1 p (.lst (vs ++ xs))) := ExS.put m1 sp
      refine ⟨p, a, vs, xs, rfl, rfl, e1 _ _ hp, h1.1, by rw [rA.length, h2.length, sizeLine_eq]; omega, ?_⟩
      exact k (vs ++ xs) _ ((Ex.ex1 e1).trans ex1_put) put.mem (Up.exS ((ExS.of m e1).trans put)) upd_same ((rA.app h2).mono put)⟩
theorem ts_appD {i : Nat} {p : Addr} {vs : List V} {ds : List D} {d : D} {te : TE} {r : TS} {D0 : Ends} (m : Mem S H) (hσ : σ[i]? = some (some (.ref p))) (hp : H p = some (.lst vs)) (sp : S p) (r0 : RpA K S H vs ds) (he : EvD K S te σ H d) (hl : ds.length ≤ 1000)
    (k : ∀ ws H1, Ex1 p H H1 → Mem S H1 → Up K S H S H1 → H1 p = some (.lst ws) → RpA K S H1 ws (ds ++ [d]) → r D0 σ H1) : tSeq (tDrop (tBM K "list" rAppend (tVar i) (tCons te tNil))) r D0 σ H :=
  ⟨.ref p, hσ, .inl ⟨rfl, vs, .inl (.inl hp)⟩, he H (Evl.Ex.refl _) _ fun v H1 e1 r1 => by
    have m1 := m.ex e1
    have rA := r0.mono (.of m e1)
    have put : ExS S H1 (upd H1 p (.lst (vs ++ [v]))) := ExS.put m1 sp
    refine ⟨p, vs, v, rfl, rfl, e1 _ _ hp, by rw [rA.length, sizeLine_eq]; omega, ?_⟩
    exact k (vs ++ [v]) _ ((Ex.ex1 e1).trans ex1_put) put.mem (Up.exS ((ExS.of m e1).trans put)) upd_same ((rA.app (.cons r1 .nil)).mono put)⟩
/-- a new list in a slot, mutable from now on -/
theorem ts_newL {i : Nat} {ta : TA} {ds : List D} {r : TS} {D0 : Ends} (m : Mem S H) (he : EvA K S ta σ H ds) (hl : ds.length ≤ 1000)
    (k : ∀ p vs H1, H p = none → Ex H H1 → Mem (plus S p) H1 → Up K S H (plus S p) H1 → H1 p = some (.lst vs) → RpA K (plus S p) H1 vs ds → r D0 (σ.set i (some (.ref p))) H1) : tSeq (tAsg (tLst ta) (gName i)) r D0 σ H := he H (Evl.Ex.refl _) _ fun vs H1 e1 r1 =>
  ⟨by rw [r1.length, sizeLine_eq]; omega, fun p hp => by
    have m1 := m.ex e1
    have eN : Ex H1 (upd H1 p (.lst vs)) := Evl.Ex.new hp
    have hpH : H p = none := by
      cases z : H p with
      | none => rfl
      | some o => rw [e1 _ _ z] at hp; cases hp
    have m2 : Mem (plus S p) (upd H1 p (.lst vs)) := fun b s => by
      rcases s with s | s
      · obtain ⟨o, ho⟩ := m1 b s
        exact ⟨o, eN _ _ ho⟩
      · exact ⟨_, by rw [s]; exact upd_same⟩
    have xs : ExS (plus S p) H1 (upd H1 p (.lst vs)) := ⟨fun a o _ h => eN _ _ h, m2⟩
    have up1 : Up K S H1 (plus S p) (upd H1 p (.lst vs)) := fun v d r => (r.plus hp).mono xs
    exact k p vs _ hpH (e1.trans eN) m2 ((Up.ex m e1).trans up1) upd_same (up1.arr r1)⟩
/-! ### the fields -/
def Part (K : PySem.W.Frag) (A : Ads) (S : Addr → Prop) (H : Hp) (x : Addr) (h : Hs) (n : Nat) : Prop := ∃ dx vs, H x = some (.ins A.cHouse dx ((hF.take n).zip vs)) ∧ RpA K S H vs ((hsD h).take n)
theorem Part.up (a : Part K A S H x h n) (e : Ex1 p H H') (ne : x ≠ p) (u : Up K S H S H') : Part K A S H' x h n := by
  obtain ⟨dx, vs, h1, h2⟩ := a
  exact ⟨dx, vs, e _ _ ne h1, u.arr h2⟩
theorem Part.fld {n i : Nat} {f : Str} {d : D} (X : Hx A K) (m : Mem S H) (a : Part K A S H x h n) (hσ : σ[i]? = some (some (.ref x))) (hm : f ∈ hF) (hf : ((hF.take n).zip ((hsD h).take n)).lookup f = some d) : EvD K S (tFld K (tVar i) f) σ H d := by
  obtain ⟨dx, vs, h1, h2⟩ := a
  obtain ⟨v, hv, rv⟩ := zip_rp h2 hf
  exact ev_fld m hσ h1 X.cl (X.na f hm) hv rv
theorem ts_fldH {n i : Nat} {f : Str} {d : D} {te : TE} {r : TS} {D0 : Ends} (X : Hx A K) (m : Mem S H) (hσ : σ[i]? = some (some (.ref x))) (sx : S x) (a : Part K A S H x h n) (hf : hF[n]? = some f) (hnd : f ∉ hF.take n) (hd : (hsD h)[n]? = some d) (he : EvD K S te σ H d)
    (k : ∀ H1, Ex1 x H H1 → Mem S H1 → Up K S H S H1 → Part K A S H1 x h (n + 1) → r D0 σ H1) : tSeq (sFld K (tVar i) te f) r D0 σ H := he H (Evl.Ex.refl _) _ fun v H1 e1 r1 => by
  obtain ⟨dx, vs, h1, h2⟩ := a
  have m1 := m.ex e1
  have hl : ((hF.take n).zip vs).length < 1000 := by
    rw [List.length_zip, List.length_take]
    have : hF.length = 11 := rfl
    omega
  have hn : n < 11 := (List.getElem?_eq_some_iff.mp hf).1
  have hlen : (hF.take n).length = vs.length := by
    rw [h2.length, List.length_take, List.length_take]
    rfl
  have put : ExS S H1 (upd H1 x (.ins A.cHouse dx (putF f v ((hF.take n).zip vs)))) := ExS.put m1 sx
  refine ⟨.ref x, hσ, x, A.cHouse, dx, _, rfl, e1 _ _ h1, X.cl, X.na f (List.mem_of_getElem? hf), hl, ?_⟩
  refine k _ ((Ex.ex1 e1).trans ex1_put) put.mem (Up.exS ((ExS.of m e1).trans put)) ⟨dx, vs ++ [v], ?_, ?_⟩
  · rw [upd_same, putF_new fun p hp z => hnd (by rw [← z]; exact (List.of_mem_zip hp).1)]
    rw [List.take_add_one, hf]
    show some (HO.ins A.cHouse dx _) = some (HO.ins A.cHouse dx ((hF.take n ++ [f]).zip (vs ++ [v])))
    rw [List.zip_append hlen]
    rfl
  · rw [List.take_add_one, hd]
    exact ((h2.mono (.of m e1)).app (.cons r1 .nil)).mono put
end
end Nv
set_option Elab.async false
set_option linter.all false
set_option maxRecDepth 100000
set_option maxHeartbeats 4000000
/-! Promises: House.__init__, House(..). -/
namespace Nv
open PySem PySem.Spec PyProof.Rows L2 StX NvZ
def Args (ds : List D) (h : Hs) : Prop := ∃ dk dc da, ds = [.int h.cells, dk, .int h.registers, .int h.live, .str h.rooms, dc, optD h.pace, .str h.need, .bl h.slide, da] ∧ fixD dk = kindsD h.kinds ∧ fixD dc = collD h.coll ∧ fixD da = strsT h.asked
section
variable {K : PySem.W.Frag} {A : Ads} {S : Addr → Prop} {σ : L2.St} {H H' H1 : Hp} {E : XK} {x p : Addr} {h : Hs}
theorem ex_new (e : Ex H H1) (hp : H p = none) (f : Ex1 p H1 H') : Ex H H' := fun b o hb => f b o (fun z => by rw [z, hp] at hb; cases hb) (e _ _ hb)
theorem RpA.ten {vs : List V} {d0 d1 d2 d3 d4 d5 d6 d7 d8 d9 : D} (r : RpA K S H vs [d0, d1, d2, d3, d4, d5, d6, d7, d8, d9]) : ∃ v0 v1 v2 v3 v4 v5 v6 v7 v8 v9, vs = [v0, v1, v2, v3, v4, v5, v6, v7, v8, v9] ∧
    Rp K S H v0 d0 ∧ Rp K S H v1 d1 ∧ Rp K S H v2 d2 ∧ Rp K S H v3 d3 ∧ Rp K S H v4 d4 ∧ Rp K S H v5 d5 ∧ Rp K S H v6 d6 ∧ Rp K S H v7 d7 ∧ Rp K S H v8 d8 ∧ Rp K S H v9 d9 := by
  cases r with
  | cons r0 r => cases r with
    | cons r1 r => cases r with
      | cons r2 r => cases r with
        | cons r3 r => cases r with
          | cons r4 r => cases r with
            | cons r5 r => cases r with
              | cons r6 r =>
                obtain ⟨v7, v8, v9, rfl, r7, r8, r9⟩ := r.three
                exact ⟨_, _, _, _, _, _, _, _, _, _, rfl, r0, r1, r2, r3, r4, r5, r6, r7, r8, r9⟩
theorem ev_rowT {te : TE} {w : Str} (m : Mem S H) (he : EvD K S te σ H (.bl true)) : EvD K S (tTup (tCons (tC (.str w)) (tCons te tNil))) σ H (rowT w) := ev_tup m (ea_cons m ev_str (ea_cons m he ea_nil)) (by show 2 ≤ _; decide)
theorem ev_wordT {te : TE} {a : Addr} {w : Str} {ws : List Str} (m : Mem S H) (he : EvD K S te σ H (.str w)) (ht : SqT K H0 a (ws.map V.str)) (hw : w ∈ ws) : EvD K S (tCall (spWord K) [] E (tCons te (tCons (tC (.ref a)) tNil))) σ H (.bl true) :=
  ev_pure m (ea_cons m he (ea_cons m (ev_T ht) ea_nil)) rfl ⟨w, ws, _, rfl, seq_T, hw⟩
def spHInit (K : PySem.W.Frag) (A : Ads) : Sp := fun vs H Q _ => ∃ S x dx vs0 ds h, vs = .ref x :: vs0 ∧ Mem S H ∧ S x ∧ H x = some (.ins A.cHouse dx []) ∧ RpA K S H vs0 ds ∧ Args ds h ∧ PartsOk h ∧ Fits h ∧ ∀ H', Ex1 x H H' → Mem S H' → HouseF K A S H' x h → Q .non H'
theorem spHInit.len {vs : List V} {Q : VK} {E : XK} (z : spHInit K A vs H Q E) : vs.length = 11 := by
  obtain ⟨S, x, dx, vs0, ds, h, rfl, _, _, _, r, ⟨dk, dc, da, rfl, _⟩, _⟩ := z
  show vs0.length + 1 = 11
  rw [r.length]; rfl
theorem pr_hinit (X : Hx A K) (Y : Tp A K) (vs : List V) (H : Hp) (Q : VK) (E : XK) (hh : spHInit K A vs H Q E) : t_House___init__ K A E (spKinds K) (spWithin K) (spColl K) (spWord K) (spWordLot K) (spNeedParts K) (spFixed K 13) (spMisfit K A) { nx := fun _ H' => Q .non H', rt := Q } (start ["self", "cells", "kinds", "registers", "live", "rooms", "collector", "pace", "need", "slide", "asked", "rows", "part"] vs) H := by
  obtain ⟨S, x, dx, vs0, ds, h, rfl, m, sx, hx, rA, ⟨dk, dc, da, rfl, fk, fc, fa⟩, P, F, k⟩ := hh
  obtain ⟨v0, v1, v2, v3, v4, v5, v6, v7, v8, v9, rfl, r0, r1, r2, r3, r4, r5, r6, r7, r8, r9⟩ := rA.ten
  show t_House___init__ K A E (spKinds K) (spWithin K) (spColl K) (spWord K) (spWordLot K) (spNeedParts K) (spFixed K 13) (spMisfit K A) { nx := fun _ H' => Q .non H', rt := Q } [some (.ref x), some v0, some v1, some v2, some v3, some v4, some v5, some v6, some v7, some v8, some v9, none, none] H
  -- the rows, as data
  refine ts_newL (ds := (["cells", "kinds"] : List Str).map rowT) m (ea_cons m (ev_rowT m (ev_within m (ev_var (i := 1) m rfl r0) P.c1 P.c2)) (ea_cons m (ev_rowT m (ev_pure m (ev_a1 (ev_var (i := 2) m rfl r1)) rfl ⟨dk, h.kinds, rfl, fk, P.k1, P.k2, P.kinds⟩)) ea_nil)) (by show 2 ≤ _; decide) fun p us1 H1 hp e1 m1 U1 hp1 ra1 => ?_
  have sp : plus S p p := .inr rfl
  refine ts_extD (i := 11) (es := (["registers", "live"] : List Str).map rowT) m1 rfl hp1 sp ra1 (ev_lst m1 (ea_cons m1 (ev_rowT m1 (ev_within m1 (ev_var (i := 3) m1 rfl (U1 _ _ r2)) P.r1 P.r2)) (ea_cons m1 (ev_rowT m1 (ev_within m1 (ev_var (i := 4) m1 rfl (U1 _ _ r3)) P.l1 P.l2)) ea_nil)) (by show 2 ≤ _; decide)) (by show 4 ≤ _; decide) fun us2 H2 x2 m2 u2 hp2 ra2 => ?_
  have U2 := U1.trans u2
  refine ts_extD (i := 11) (es := (["rooms", "collector"] : List Str).map rowT) m2 rfl hp2 sp ra2 (ev_lst m2 (ea_cons m2 (ev_rowT m2 (ev_wordT m2 (ev_var (i := 5) m2 rfl (U2 _ _ r4)) Y.rooms P.rooms)) (ea_cons m2 (ev_rowT m2 (ev_pure m2 (ev_a1 (ev_var (i := 6) m2 rfl (U2 _ _ r5))) rfl ⟨dc, h.coll, rfl, fc, P.coll⟩)) ea_nil)) (by show 2 ≤ _; decide)) (by show 6 ≤ _; decide) fun us3 H3 x3 m3 u3 hp3 ra3 => ?_
  have U3 := U2.trans u3
  have hpace : EvD K (plus S p) (tOrV (tOp rIsN (tVar 7) (tC .non)) (tCall (spWithin K) [] E0 (tCons (tVar 7) (tCons (tC (.int 0)) (tCons (tC (.int 6)) tNil))))) [some (.ref x), some v0, some v1, some v2, some v3, some v4, some v5, some v6, some v7, some v8, some v9, some (.ref p), none] H3 (.bl true) := by
    have a0 := ev_var (i := 7) (σ := [some (.ref x), some v0, some v1, some v2, some v3, some v4, some v5, some v6, some v7, some v8, some v9, some (.ref p), none]) m3 rfl (U3 _ _ r6)
    have hn := ev_op m3 a0 ev_non (r_isN (K := K) (S := plus S p))
    have hP := P.pace
    revert a0 hn hP
    cases h.pace with
    | none => exact fun a0 hn _ => (ev_or (b := true) hn fun z => by cases z).is rfl
    | some i => exact fun a0 hn hP => (ev_or (b := true) hn fun _ => ev_within m3 a0 (hP i rfl).1 (hP i rfl).2).is rfl
  refine ts_appD (i := 11) (d := rowT "pace") m3 rfl hp3 sp ra3 (ev_rowT m3 hpace) (by show 6 ≤ _; decide) fun us4 H4 x4 m4 u4 hp4 ra4 => ?_
  have U4 := U3.trans u4
  refine ts_extD (i := 11) (es := (["need", "slide"] : List Str).map rowT) m4 rfl hp4 sp ra4 (ev_lst m4 (ea_cons m4 (ev_rowT m4 (ev_wordT m4 (ev_var (i := 8) m4 rfl (U4 _ _ r7)) Y.needs P.need)) (ea_cons m4 (ev_rowT m4 (r_isi (ev_var (i := 9) m4 rfl (U4 _ _ r8)) trivial (ki_bool rfl))) ea_nil)) (by show 2 ≤ _; decide)) (by show 9 ≤ _; decide) fun us5 H5 x5 m5 u5 hp5 ra5 => ?_
  have U5 := U4.trans u5
  obtain ⟨das, hqa, hma⟩ := fix_tup fa
  have hda := fix_strs hma
  subst hda
  have hasked : EvD K (plus S p) (tAndV (tCall (spWordLot K) [] E0 (tCons (tVar 10) (tCons (tC (.ref A.tBREAKS)) tNil))) (tOp (rIn K false) (tC (.str "swept")) (tVar 10))) [some (.ref x), some v0, some v1, some v2, some v3, some v4, some v5, some v6, some v7, some v8, some v9, some (.ref p), none] H5 (.bl true) := by
    have a0 := ev_var (i := 10) (σ := [some (.ref x), some v0, some v1, some v2, some v3, some v4, some v5, some v6, some v7, some v8, some v9, some (.ref p), none]) m5 rfl (U5 _ _ r9)
    refine (ev_and (ev_pure m5 (ea_cons m5 a0 (ea_cons m5 (ev_T Y.breaks) ea_nil)) rfl ⟨_, _, h.asked, lBREAKS, rfl, hqa, seq_T, P.asked⟩) fun _ => ev_op m5 ev_str a0 (r_inQ (neg := false) hqa)).is ?_
    show D.bl (true && decide (("swept" : Str) ∈ h.asked)) = _
    rw [decide_eq_true P.swept]; rfl
  refine ts_appD (i := 11) (d := rowT "asked") m5 rfl hp5 sp ra5 (ev_rowT m5 hasked) (by show 9 ≤ _; decide) fun us6 H6 x6 m6 u6 hp6 ra6 => ?_
  have U6 := U5.trans u6
  have E6 : Ex H H6 := ex_new (ex_new (ex_new (ex_new (ex_new e1 hp x2) hp x3) hp x4) hp x5) hp x6
  have nS : ¬ S p := m.new hp
  have m6' : Mem S H6 := m.ex E6
  have ra6' : Rp K S H6 (.ref p) (.lst ((["cells", "kinds", "registers", "live", "rooms", "collector", "pace", "need", "slide", "asked"] : List Str).map rowT)) := .lst ⟨hp6, nS⟩ (ra6.less fun _ z => .inl z)
  refine td_seq ⟨.ref p, rfl, S, _, rfl, m6', .cons ra6' .nil, ⟨_, rfl, by decide⟩, fun u H7 e7 _ => ?_⟩
  have E7 : Ex H H7 := E6.trans e7
  have m7 : Mem S H7 := m.ex E7
  have U7 : Up K S H S H7 := Up.ex m E7
  -- the fields
  have p0 : Part K A S H7 x h 0 := ⟨dx, [], E7 _ _ hx, .nil⟩
  refine ts_fldH X m7 rfl sx p0 rfl (by decide) rfl (ev_var (i := 1) m7 rfl (U7 _ _ r0)) fun H8 y8 m8 u8 p1 => ?_
  have U8 := U7.trans u8
  have gk := ev_fixed m8 (ev_var (i := 2) (σ := [some (.ref x), some v0, some v1, some v2, some v3, some v4, some v5, some v6, some v7, some v8, some v9, some (.ref p), none]) m8 rfl (U8 _ _ r1)) (by rw [fk]; have := okF_kinds P; exact ⟨this.1, by omega⟩)
  rw [fk] at gk
  refine ts_fldH X m8 rfl sx p1 rfl (by decide) rfl gk fun H9 y9 m9 u9 p2 => ?_
  have U9 := U8.trans u9
  refine ts_fldH X m9 rfl sx p2 rfl (by decide) rfl (ev_var (i := 3) m9 rfl (U9 _ _ r2)) fun H10 y10 m10 u10 p3 => ?_
  have U10 := U9.trans u10
  refine ts_fldH X m10 rfl sx p3 rfl (by decide) rfl (ev_var (i := 4) m10 rfl (U10 _ _ r3)) fun H11 y11 m11 u11 p4 => ?_
  have U11 := U10.trans u11
  refine ts_fldH X m11 rfl sx p4 rfl (by decide) rfl (ev_var (i := 5) m11 rfl (U11 _ _ r4)) fun H12 y12 m12 u12 p5 => ?_
  have U12 := U11.trans u12
  have gc := ev_fixed m12 (ev_var (i := 6) (σ := [some (.ref x), some v0, some v1, some v2, some v3, some v4, some v5, some v6, some v7, some v8, some v9, some (.ref p), none]) m12 rfl (U12 _ _ r5)) (by rw [fc]; have := okF_coll P.coll; exact ⟨this.1, by omega⟩)
  rw [fc] at gc
  refine ts_fldH X m12 rfl sx p5 rfl (by decide) rfl gc fun H13 y13 m13 u13 p6 => ?_
  have U13 := U12.trans u13
  have gw : EvD K S (tOp (rIx K) (tFld K (tVar 0) "collector") (tC (.int 0))) [some (.ref x), some v0, some v1, some v2, some v3, some v4, some v5, some v6, some v7, some v8, some v9, some (.ref p), none] H13 (.str (wordC h.coll)) :=
    ev_op m13 (p6.fld X m13 rfl (by decide) (d := collD h.coll) rfl) ev_int (r_ixQ' (j := 0) (.inr rfl) rfl rfl)
  refine ts_fldH X m13 rfl sx p6 rfl (by decide) rfl gw fun H14 y14 m14 u14 p7 => ?_
  have U14 := U13.trans u14
  refine ts_fldH X m14 rfl sx p7 rfl (by decide) rfl (ev_var (i := 7) m14 rfl (U14 _ _ r6)) fun H15 y15 m15 u15 p8 => ?_
  have U15 := U14.trans u15
  refine ts_fldH X m15 rfl sx p8 rfl (by decide) rfl (ev_var (i := 8) m15 rfl (U15 _ _ r7)) fun H16 y16 m16 u16 p9 => ?_
  have U16 := U15.trans u16
  refine ts_fldH X m16 rfl sx p9 rfl (by decide) rfl (ev_var (i := 9) m16 rfl (U16 _ _ r8)) fun H17 y17 m17 u17 p10 => ?_
  have U17 := U16.trans u17
  have ga := ev_fixed m17 (ev_var (i := 10) (σ := [some (.ref x), some v0, some v1, some v2, some v3, some v4, some v5, some v6, some v7, some v8, some v9, some (.ref p), none]) m17 rfl (U17 _ _ r9)) (by rw [fa]; have := okF_strs (l := h.asked) P.asked.len; exact ⟨this.1, by omega⟩)
  rw [fa] at ga
  refine ts_fldH X m17 rfl sx p10 rfl (by decide) rfl ga fun H18 y18 m18 u18 p11 => ?_
  have hF18 : HouseF K A S H18 x h := p11
  have E18 : Ex1 x H H18 := (((((((((((Ex.ex1 E7).trans y8).trans y9).trans y10).trans y11).trans y12).trans y13).trans y14).trans y15).trans y16).trans y17).trans y18
  have gm : EvD K S (tCall (spMisfit K A) [] E0 (tCons (tVar 0) tNil)) [some (.ref x), some v0, some v1, some v2, some v3, some v4, some v5, some v6, some v7, some v8, some v9, some (.ref p), none] H18 .non := fun G e Q q =>
    ⟨.ref x, rfl, S, x, h, rfl, m18.ex e, hF18.ex m18 e, P, F, fun G' e' => q _ _ e' .non⟩
  refine ts_set gm fun u19 H19 e19 r19 => ?_
  cases r19
  have m19 := m18.ex e19
  refine ts_if ((eb_T (ev_op m19 (ev_var (i := 12) m19 rfl (.non (K := K) (S := S))) ev_non r_notN)).is rfl) fun H20 e20 => ?_
  rw [if_neg (by decide)]
  exact k H20 (E18.trans (Ex.ex1 (e19.trans e20))) (m19.ex e20) (hF18.ex m18 (e19.trans e20))
/-- House(..) -/
theorem mk_house {ta : TA} {ds : List D} {Q : VK} (m : Mem S H) (he : EvA K S ta σ H ds) (ha : Args ds h) (P : PartsOk h) (F : Fits h)
    (k : ∀ q H', Ex H H' → H q = none → Mem S H' → HouseAt K A S H' q h → Q (.ref q) H') : tMake A.cHouse (spHInit K A) [] E ta σ H Q := he H (Evl.Ex.refl _) _ fun vs H1 e1 r1 => by
  intro x dx hx hdx hne
  have m1 := m.ex e1
  have exA : Ex H1 (upd (upd H1 dx (.own x)) x (.ins A.cHouse dx [])) := (Evl.Ex.new hdx).trans (Evl.Ex.new (by rw [upd_ne (Ne.symm hne)]; exact hx))
  have m3 : Mem (plus S x) (upd (upd H1 dx (.own x)) x (.ins A.cHouse dx [])) := fun b s => by
    rcases s with s | s
    · obtain ⟨o, h⟩ := m1 b s
      exact ⟨o, exA _ _ h⟩
    · exact ⟨_, by rw [s]; exact upd_same⟩
  have up1 : Up K S H1 (plus S x) (upd (upd H1 dx (.own x)) x (.ins A.cHouse dx [])) := fun v d r => (r.plus hx).mono ⟨fun a o _ h => exA _ _ h, m3⟩
  refine ⟨plus S x, x, dx, vs, ds, h, by rw [List.append_nil], m3, .inr rfl, upd_same, up1.arr r1, ha, P, F, fun H' e' m' hf => ⟨rfl, ?_⟩⟩
  have hHx : H x = none := by
    cases z : H x with
    | none => rfl
    | some o => rw [e1 _ _ z] at hx; cases hx
  have nSx : ¬ S x := m.new hHx
  obtain ⟨dx', us, h1, h2⟩ := hf
  refine k x H' (fun b o hb => ?_) hHx (fun b s => m' b (.inl s)) ⟨nSx, dx', us, h1, h2.less fun _ z => .inl z⟩
  exact e' b o (fun z => by rw [z, hHx] at hb; cases hb) (exA _ _ (e1 _ _ hb))
end
end Nv
set_option Elab.async false
set_option linter.all false
set_option maxRecDepth 100000
set_option maxHeartbeats 4000000
/-! Promises: a house's lines, its text. -/
namespace Nv
open PySem PySem.Spec PyProof.Rows L2 StX NvZ
/-! ### the lines -/
def optS (z : Str) : Option Int → Str
  | none => z
  | some i => istr i
def linkW (l : List Int) : List Str := ":" :: l.map istr
def kindW (k : Kind) : List Str := ("kind" : Str) :: istr k.1 :: (k.2.map linkW).flatten
def restW : Cl → List Str
  | .none => []
  | .halves => []
  | .counts m o => [optS "-" m, o]
  | .marks gs => gs
  | .young n r => [istr n, r]
def collW (c : Cl) : List Str := "collector" :: wordC c :: restW c
def truthW (b : Bool) : Str := if b then "yes" else "no"
def tailL (h : Hs) : List (List Str) := [[("registers" : Str), istr h.registers], [("live" : Str), istr h.live], [("rooms" : Str), h.rooms], collW h.coll, [("pace" : Str), optS "free" h.pace], [("need" : Str), h.need], [("slide" : Str), truthW h.slide], ("asked" : Str) :: h.asked]
def houseL (h : Hs) : List (List Str) := [("cells" : Str), istr h.cells] :: (h.kinds.map kindW ++ tailL h)
def houseT (h : Hs) : Str := Txt.join "\n" ((houseL h).map (Txt.join " "))
/-! ### small numbers -/
def to12 : List Int := [0, 1, 2, 3, 4, 5, 6, 7, 8, 9, 10, 11, 12]
theorem mem12 {i : Int} (h0 : 0 ≤ i) (h1 : i ≤ 12) : i ∈ to12 := by
  rcases (by omega : i = 0 ∨ i = 1 ∨ i = 2 ∨ i = 3 ∨ i = 4 ∨ i = 5 ∨ i = 6 ∨ i = 7 ∨ i = 8 ∨ i = 9 ∨ i = 10 ∨ i = 11 ∨ i = 12) with rfl | rfl | rfl | rfl | rfl | rfl | rfl | rfl | rfl | rfl | rfl | rfl | rfl <;> decide
theorem log12 {i : Int} (h0 : 0 ≤ i) (h1 : i ≤ 12) : i.natAbs.log2 < 1920 := by
  have : ∀ i ∈ to12, i.natAbs.log2 < 1920 := by decide +kernel
  exact this i (mem12 h0 h1)
theorem len12 {i : Int} (h0 : 0 ≤ i) (h1 : i ≤ 12) : (istr i).length ≤ 50 := by
  have : ∀ i ∈ to12, (istr i).length ≤ 50 := by decide +kernel
  exact this i (mem12 h0 h1)
section
variable {K : PySem.W.Frag} {A : Ads} {S : Addr → Prop} {σ : L2.St} {H H' H1 : Hp} {E : XK} {q p : Addr} {h : Hs}
/-! ### a loop that makes a list longer -/
theorem td_extD {i : Nat} {vs : List V} {ds es : List D} {te : TE} {D0 : Ends} (m : Mem S H) (hσ : σ[i]? = some (some (.ref p))) (hp : H p = some (.lst vs)) (sp : S p) (r0 : RpA K S H vs ds) (he : EvD K S te σ H (.lst es)) (hl : ds.length + es.length ≤ 100000)
    (k : ∀ ws H1, Ex1 p H H1 → Mem S H1 → Up K S H S H1 → H1 p = some (.lst ws) → RpA K S H1 ws (ds ++ es) → D0.nx σ H1) : tDrop (tBM K "list" rExtend (tVar i) (tCons te tNil)) D0 σ H :=
  ⟨.ref p, hσ, .inl ⟨rfl, vs, .inl (.inl hp)⟩, he H (Evl.Ex.refl _) _ fun v H1 e1 r1 => by
    have m1 := m.ex e1
    have rA := r0.mono (.of m e1)
    cases r1 with
    | @lst a xs _ h1 h2 =>
      have put : ExS S H1 (upd H1 p (.lst (vs ++ xs))) := ExS.put m1 sp
      refine ⟨p, a, vs, xs, rfl, rfl, e1 _ _ hp, h1.1, by rw [rA.length, h2.length, sizeLine_eq]; omega, ?_⟩
      exact k (vs ++ xs) _ ((Ex.ex1 e1).trans ex1_put) put.mem (Up.exS ((ExS.of m e1).trans put)) upd_same ((rA.app h2).mono put)⟩
theorem flat_len {α : Type} {f : α → List D} {as : List α} (n : Nat) : (((as.take n).map f).flatten).length ≤ ((as.map f).flatten).length := by
  rw [List.length_flatten, List.length_flatten, List.map_map, List.map_map]
  conv => rhs; rw [← List.take_append_drop n as]
  rw [List.map_append, List.sum_append]
  omega
theorem ts_forExt {α : Type} {wi : TI} {i j : Nat} {te : TE} {D0 : Ends} {as : List α} {g : α → D} {f : α → List D} {vs : List V} {es0 : List D} (m : Mem S H) (hσ : σ[j]? = some (some (.ref p))) (ij : i ≠ j) (hp : H p = some (.lst vs)) (sp : S p) (r0 : RpA K S H vs es0)
    (hi : EvI K S wi σ H (as.map g)) (hl : es0.length + ((as.map f).flatten).length ≤ 100000)
    (he : ∀ a ∈ as, ∀ G x, Mem S G → Up K S H S G → Rp K S G x (g a) → EvD K S te (σ.set i (some x)) G (.lst (f a)))
    (k : ∀ σ' ws G, (σ' = σ ∨ ∃ y, σ' = σ.set i (some y)) → Mem S G → Up K S H S G → Ex1 p H G → G p = some (.lst ws) → RpA K S G ws (es0 ++ (as.map f).flatten) → D0.nx σ' G) :
    tFor wi (gName i) (tDrop (tBM K "list" rExtend (tVar j) (tCons te tNil))) D0 σ H := by
  refine ts_for hi fun H2 e2 => ⟨fun n σ' G => (σ' = σ ∨ ∃ y, σ' = σ.set i (some y)) ∧ Mem S G ∧ Up K S H2 S G ∧ Ex1 p H2 G ∧ ∃ ws, G p = some (.lst ws) ∧ RpA K S G ws (es0 ++ ((as.take n).map f).flatten), ?_, fun n σ' G a => ⟨S, a.2.1, a.2.2.1⟩, fun n d σ' G hd a x G2 ex hx => ?_, fun σ' G a => ?_⟩
  · refine ⟨.inl rfl, m.ex e2, Up.refl, Ex1.refl, vs, e2 _ _ hp, ?_⟩
    have := r0.mono (.of m e2)
    simpa using this
  · obtain ⟨hs, mG, uG, xG, ws, hw, rw'⟩ := a
    rw [List.getElem?_map, Option.map_eq_some_iff] at hd
    obtain ⟨b, hb, rfl⟩ := hd
    have rx := hx S mG uG
    have m2 := mG.ex ex
    have es : σ'.set i (some x) = σ.set i (some x) := by
      rcases hs with rfl | ⟨y, rfl⟩
      · rfl
      · rw [List.set_set]
    show tDrop _ _ (σ'.set i (some x)) G2
    rw [es]
    have hσ2 : (σ.set i (some x))[j]? = some (some (.ref p)) := by rw [List.getElem?_set_ne ij]; exact hσ
    have uH : Up K S H S G2 := ((Up.ex m e2).trans uG).trans (Up.ex mG ex)
    have tk : as.take (n + 1) = as.take n ++ [b] := by rw [List.take_add_one, hb]; rfl
    have hfl : es0.length + ((as.take n).map f).flatten.length + (f b).length ≤ 100000 := by
      have := flat_len (f := f) (as := as) (n + 1)
      rw [tk, List.map_append, List.flatten_append, List.length_append] at this
      have e1 : ([b].map f).flatten = f b := by simp
      rw [e1] at this
      omega
    refine td_extD (i := j) m2 hσ2 (ex _ _ hw) sp (rw'.mono (.of mG ex)) (he b (List.mem_of_getElem? hb) G2 x m2 uH rx) (by rw [List.length_append]; omega) fun ws2 G3 x3 m3 u3 hp3 r3 => ?_
    refine ⟨.inr ⟨x, rfl⟩, m3, (uG.trans (Up.ex mG ex)).trans u3, (xG.trans (Ex.ex1 ex)).trans x3, ws2, hp3, ?_⟩
    rw [tk, List.map_append, List.flatten_append, ← List.append_assoc]
    have e1 : ([b].map f).flatten = f b := by simp
    rw [e1]
    exact r3
  · obtain ⟨hs, mG, uG, xG, ws, hw, rw'⟩ := a
    rw [List.length_map, List.take_length] at rw'
    exact k σ' ws G hs mG ((Up.ex m e2).trans uG) ((Ex.ex1 e2).trans xG) hw rw'
/-! ### kind_words -/
theorem flat_map {α : Type} (f : α → List Str) (as : List α) : (as.map fun a => (f a).map D.str).flatten = ((as.map f).flatten).map D.str := by
  induction as with
  | nil => rfl
  | cons a as ih => simp [ih]
theorem ev_strs {te : TE} {i : Nat} {d : D} {l : List Int} {b : Int} (m : Mem S H) (hq : SeqD d (l.map D.int)) (h : EvD K S te σ H d) (hl : l.length ≤ 1000) (hr : ∀ a ∈ l, 0 ≤ a ∧ a ≤ 12) (hw : ∀ v : V, ((wipe σ [i]).set i (some v))[i]? = some (some v)) (hwp : ∀ v : V, wipe ((wipe σ [i]).set i (some v)) [i] = wipe σ [i]) :
    EvD K S (tLc (iSeq K te) (gName i) tYes (tCB rStrI (tCons (tVar i) tNil)) [i]) σ H (.lst ((l.map istr).map D.str)) := by
  have il : items d = l.map D.int := items_Q hq
  have := ev_map (i := i) (te := tCB rStrI (tCons (tVar i) tNil)) (f := fun d => match d with | .int a => .str (istr a) | _ => .non) m (ei_seq m h (walks_Q hq)) (by rw [il, List.length_map]; omega) fun S' H' m' up ex x e he rx => by
    rw [il] at he
    obtain ⟨a, ha, rfl⟩ := List.mem_map.mp he
    exact ⟨hwp x, ev_cb (ev_a1 (ev_var m' (hw x) rx)) (ra_str (log12 (hr a ha).1 (hr a ha).2))⟩
  rw [il, List.map_map] at this
  rw [List.map_map]
  exact this
abbrev spKindW (K : PySem.W.Frag) : Sp := fun vs H Q _ => ∃ S v k many, vs = [v] ∧ Mem S H ∧ Rp K S H v (kindD k) ∧ KindOk many k ∧ many ≤ 3 ∧ ∀ u H', Ex H H' → Rp K S H' u (.lst ((kindW k).map D.str)) → Q u H'
theorem pr_kindw (vs : List V) (H : Hp) (Q : VK) (E : XK) (hh : spKindW K vs H Q E) : t_kind_words K A E { nx := fun _ H' => Q .non H', rt := Q } (start ["kind", "found", "link", "one"] vs) H := by
  obtain ⟨S, v, k, many, rfl, m, r, ok, hm, kk⟩ := hh
  show t_kind_words K A E { nx := fun _ H' => Q .non H', rt := Q } [some v, none, none, none] H
  have v0 := ev_var (i := 0) (σ := [some v, none, none, none]) m rfl r
  refine ts_newL (ds := (["kind", istr k.1] : List Str).map D.str) m (ea_cons m ev_str (ea_cons m (ev_cb (ev_a1 (ev_op m v0 ev_int (r_ixQ' (j := 0) (.inr rfl) rfl rfl))) (ra_str (log12 (by have := ok.lo; omega) (by have := ok.hi; omega)))) ea_nil)) (by show 2 ≤ _; decide) fun p vs1 H1 hp e1 m1 U1 hp1 r1 => ?_
  have r' := U1 _ _ r
  have lk := kind_links ok
  have hEvI : EvI K (plus S p) (iSeq K (tOp (rIx K) (tVar 0) (tC (.int 1)))) [some v, some (.ref p), none, none] H1 (k.2.map intsD) := ei_seq (d := .tup (k.2.map intsD)) m1 (ev_op m1 (ev_var (i := 0) m1 rfl r') ev_int (r_ixQ' (j := 1) (.inr rfl) rfl rfl)) rfl
  have size : ∀ l ∈ k.2, l.length ≤ 1000 := fun l hl => (ok.each l hl).len
  have flen : ((k.2.map fun l => (linkW l).map D.str).flatten).length ≤ 3 * 1001 := by
    rw [List.length_flatten, List.map_map]
    refine Nat.le_trans (sum_le (n := 1001) fun l hl => ?_) (Nat.mul_le_mul_right _ lk)
    show ((linkW l).map D.str).length ≤ 1001
    rw [List.length_map]
    show (l.map istr).length + 1 ≤ 1001
    rw [List.length_map]
    have := size l hl
    omega
  refine td_seq' (ts_forExt (i := 2) (j := 1) (f := fun l => (linkW l).map D.str) m1 rfl (by decide) hp1 (.inr rfl) r1 hEvI (by show 2 + _ ≤ _; omega) (fun l hl G x mG uG rx => ?_) fun σ' ws G hs mG uG xG hw rw' => ?_)
  · have hr : ∀ a ∈ l, 0 ≤ a ∧ a ≤ 12 := fun a ha => by
      have := (ok.each l hl).rng a ha
      omega
    have h3 := ev_strs (i := 3) (b := 0) (σ := [some v, some (.ref p), some x, none]) (te := tVar 2) mG (.inr rfl) (ev_var (i := 2) mG rfl rx) (size l hl) hr (fun _ => rfl) (fun _ => rfl)
    refine (ev_lst mG (ea_cons mG ev_str (ea_star mG h3 ea_nil)) ?_).is ?_
    · rw [List.length_cons, List.append_nil, List.length_map, List.length_map]
      have := size l hl
      omega
    · rw [List.append_nil]; rfl
  · have h1 : σ'[1]? = some (some (.ref p)) := by rcases hs with rfl | ⟨y, rfl⟩ <;> rfl
    refine ⟨.ref p, h1, kk _ G (ex_new e1 hp xG) ?_⟩
    rw [flat_map, ← List.map_append] at rw'
    replace rw' : RpA K (plus S p) G ws ((kindW k).map D.str) := rw'
    exact .lst ⟨hw, m.new hp⟩ (rw'.less fun _ z => .inl z)
/-! ### collector_words -/
def partD : D → Str
  | .int i => istr i
  | .str s => s
  | _ => "-"
def collF (w : Str) (rs : List D) : D := if w = "marks" then .lst ((.str "collector") :: .str w :: (match rs with | [.tup gs] => gs | _ => [])) else .lst ((.str "collector") :: .str w :: rs.map fun r => .str (partD r))
def collWD : D → D
  | .tup (.str w :: rs) => collF w rs
  | _ => .non
abbrev spCollW (K : PySem.W.Frag) : Sp := Pure K 1 (fun ds => ∃ c, ds = [collD c] ∧ CollOk c) (at1 collWD)
theorem collF_no {w : Str} {rs : List D} (h : ¬ w = "marks") : collF w rs = .lst ((.str "collector") :: .str w :: rs.map fun r => .str (partD r)) := if_neg h
theorem collw_eq (c : Cl) : at1 collWD [collD c] = .lst ((collW c).map D.str) := by
  cases c with
  | none => exact collF_no (show ¬ ("none" : Str) = "marks" by decide +kernel)
  | halves => exact collF_no (show ¬ ("halves" : Str) = "marks" by decide +kernel)
  | counts m o =>
    refine (collF_no (w := "counts") (rs := [optD m, .str o]) (show ¬ ("counts" : Str) = "marks" by decide +kernel)).trans ?_
    cases m <;> rfl
  | marks gs =>
    show collF "marks" [strsT gs] = _
    unfold collF
    rw [if_pos rfl]; rfl
  | young n r => exact collF_no (w := "young") (rs := [.int n, .str r]) (show ¬ ("young" : Str) = "marks" by decide +kernel)
theorem ra_strI {i : Int} (h : i.natAbs.log2 < 1920) : RAD K S rStrIS H [.int i] (.str (istr i)) := fun H1 _ vs r Q q => by
  obtain ⟨v, rfl, r1⟩ := r.one
  cases r1
  exact .inl ⟨i, rfl, h, q _ _ (Evl.Ex.refl _) (.str _)⟩
theorem ra_strS {x : Str} : RAD K S rStrIS H [.str x] (.str x) := fun H1 _ vs r Q q => by
  obtain ⟨v, rfl, r1⟩ := r.one
  cases r1
  exact .inr ⟨x, rfl, q _ _ (Evl.Ex.refl _) (.str _)⟩
/-- what str takes of a collector's rest -/
def restOk (d : D) : Prop := d = .non ∨ (∃ i, d = .int i ∧ 0 ≤ i ∧ i ≤ 12) ∨ ∃ s, d = .str s
theorem rest_ok {c : Cl} (ok : CollOk c) (hm : wordC c ≠ "marks") : ∀ d ∈ restC c, restOk d := by
  cases c with
  | none => intro d hd; cases hd
  | halves => intro d hd; cases hd
  | marks gs => exact absurd rfl hm
  | counts m o =>
    intro d hd
    rcases List.mem_cons.mp hd with rfl | hd
    · cases m with
      | none => exact .inl rfl
      | some i => exact .inr (.inl ⟨i, rfl, by have := (ok.1 i rfl).1; omega, by have := (ok.1 i rfl).2; omega⟩)
    · rcases List.mem_cons.mp hd with rfl | hd
      · exact .inr (.inr ⟨o, rfl⟩)
      · cases hd
  | young n r =>
    intro d hd
    rcases List.mem_cons.mp hd with rfl | hd
    · exact .inr (.inl ⟨n, rfl, by have := ok.1.1; omega, by have := ok.1.2; omega⟩)
    · rcases List.mem_cons.mp hd with rfl | hd
      · exact .inr (.inr ⟨r, rfl⟩)
      · cases hd
theorem pr_collw (vs : List V) (H : Hp) (Q : VK) (E : XK) (hh : spCollW K vs H Q E) : t_collector_words K A E { nx := fun _ H' => Q .non H', rt := Q } (start ["collector", "word", "rest", "part"] vs) H := pure_of hh fun S ds hn m r hp => by
  obtain ⟨c, rfl, ok⟩ := hp
  rw [collw_eq]
  obtain ⟨v, rfl, r1⟩ := r.one
  show EvS K S _ [some v, none, none, none] H _
  have v0 := ev_var (i := 0) (σ := [some v, none, none, none]) m rfl r1
  refine es_set (ev_op m v0 ev_int (r_ixQ' (e := .str (wordC c)) (j := 0) (.inr rfl) rfl rfl)) fun vw H1 e1 rw' => ?_
  have m1 := m.ex e1
  have v1 : EvD K S (tVar 1) [some v, some vw, none, none] H1 (.str (wordC c)) := ev_var m1 rfl rw'
  have v0' : EvD K S (tVar 0) [some v, some vw, none, none] H1 (collD c) := ev_var m1 rfl (r1.mono (.of m e1))
  refine es_ifret (teq (x := "marks") m1 v1 (wordC_ok c) (by decide +kernel)) (fun hc => ?_) fun hc => ?_
  · have hc' : wordC c = "marks" := of_decide_eq_true hc
    obtain ⟨gs, rfl⟩ : ∃ gs, c = .marks gs := by
      cases c with
      | marks gs => exact ⟨gs, rfl⟩
      | none => exact absurd hc' (show ¬ ("none" : Str) = "marks" by decide +kernel)
      | halves => exact absurd hc' (show ¬ ("halves" : Str) = "marks" by decide +kernel)
      | counts _ _ => exact absurd hc' (show ¬ ("counts" : Str) = "marks" by decide +kernel)
      | young _ _ => exact absurd hc' (show ¬ ("young" : Str) = "marks" by decide +kernel)
    have hg : EvD K S (tOp (rIx K) (tVar 0) (tC (.int 1))) [some v, some vw, none, none] H1 (strsT gs) := ev_op m1 v0' ev_int (r_ixQ' (j := 1) (.inr rfl) rfl rfl)
    have hl : gs.length ≤ 1000 := WLotOk.len ok
    refine (es_ret (ev_lst m1 (ea_cons m1 ev_str (ea_cons m1 v1 (ea_starT m1 hg ea_nil))) ?_)).is ?_
    · rw [List.length_cons, List.length_cons, List.append_nil, List.length_map]; omega
    · rw [List.append_nil]; rfl
  · have hc' : wordC c ≠ "marks" := of_decide_eq_false hc
    have hrest := rest_ok ok hc'
    have hsl := ev_tailX m1 (.inr rfl : SeqD (collD c) _) v0'
    have hrl : (restC c).length ≤ 2 := by cases c <;> simp [restC]
    have hlc := ev_map (i := 3) (te := tIf (tTest (tOp rIsN (tVar 3) (tC .non))) (tC (.str "-")) (tCB rStrIS (tCons (tVar 3) tNil))) (f := fun d => .str (partD d)) m1 (ei_seq m1 hsl rfl) (by show (restC c).length ≤ _; omega) fun S' H' m' up ex x e he rx => by
      refine ⟨rfl, ?_⟩
      have he' : e ∈ restC c := he
      have vx := ev_var (i := 3) (σ := (wipe [some v, some vw, none, none] [3]).set 3 (some x)) m' rfl rx
      refine ev_if (eb_T (ev_op m' vx ev_non r_isN)) (fun z => ?_) fun z => ?_
      · rcases hrest e he' with rfl | ⟨i, rfl, _⟩ | ⟨s, rfl⟩
        · exact ev_str
        · cases z
        · cases z
      · rcases hrest e he' with rfl | ⟨i, rfl, h0, h1⟩ | ⟨s, rfl⟩
        · cases z
        · exact ev_cb (ev_a1 vx) (ra_strI (log12 h0 h1))
        · exact ev_cb (ev_a1 vx) ra_strS
    refine es_set hlc fun vr H2 e2 rr => ?_
    have m2 := m1.ex e2
    have rr' : Rp K S H2 vr (.lst ((restC c).map fun d => .str (partD d))) := rr
    refine (es_ret (ev_lst m2 (ea_cons m2 ev_str (ea_cons m2 (ev_var (i := 1) (σ := [some v, some vw, some vr, none]) m2 rfl (rw'.mono (.of m1 e2))) (ea_star m2 (ev_var (i := 2) (σ := [some v, some vw, some vr, none]) m2 rfl rr') ea_nil))) ?_)).is ?_
    · rw [List.length_cons, List.length_cons, List.append_nil, List.length_map]; omega
    · rw [List.append_nil]
      cases c with
      | counts mm o => cases mm <;> rfl
      | marks gs => exact absurd rfl hc'
      | _ => rfl
end
end Nv
set_option Elab.async false
set_option linter.all false
set_option maxRecDepth 100000
set_option maxHeartbeats 4000000
/-! Promises: house_rows, house_text. -/
namespace Nv
open PySem PySem.Spec PyProof.Rows L2 StX NvZ
def unI : D → Int
  | .int z => z
  | _ => 0
def unL : D → List Int
  | .tup is => is.map unI
  | _ => []
def unK : D → Kind
  | .tup [.int s, .tup ls] => (s, ls.map unL)
  | _ => (0, [])
def unS : D → Str
  | .str z => z
  | _ => ""
def unW : D → List Str
  | .lst ws => ws.map unS
  | _ => []
theorem map_un {α : Type} {f : α → D} {g : D → α} (h : ∀ a, g (f a) = a) (l : List α) : (l.map f).map g = l := by
  rw [List.map_map]
  conv => rhs; rw [← List.map_id l]
  exact List.map_congr_left fun a _ => h a
theorem unL_eq (l : List Int) : unL (intsD l) = l := map_un (f := D.int) (g := unI) (fun _ => rfl) l
theorem unK_eq (k : Kind) : unK (kindD k) = k := by
  obtain ⟨s, ls⟩ := k
  show (s, (ls.map intsD).map unL) = (s, ls)
  rw [map_un unL_eq]
theorem unW_eq (ws : List Str) : unW (.lst (ws.map D.str)) = ws := map_un (f := D.str) (g := unS) (fun _ => rfl) ws
theorem wordC_len (c : Cl) : (wordC c).length ≤ 50 := by cases c <;> (simp only [wordC]; decide +kernel)
structure RowOk (ws : List Str) : Prop where
  len : ws.length ≤ 1000
  each : ∀ w ∈ ws, w.length ≤ 50
theorem RowOk.two {a b : Str} (ha : a.length ≤ 50) (hb : b.length ≤ 50) : RowOk [a, b] := ⟨by show 2 ≤ _; decide, fun w hw => by
  rcases List.mem_cons.mp hw with rfl | hw
  · exact ha
  · rcases List.mem_cons.mp hw with rfl | hw
    · exact hb
    · cases hw⟩
theorem RowOk.cons {a : Str} {l : List Str} (ha : a.length ≤ 50) (hl : l.length ≤ 900) (h : ∀ w ∈ l, w.length ≤ 50) : RowOk (a :: l) := ⟨by rw [List.length_cons]; omega, fun w hw => by
  rcases List.mem_cons.mp hw with rfl | hw
  · exact ha
  · exact h w hw⟩
theorem mem_len {l : List Str} (hl : ∀ x ∈ l, x.length ≤ 50) {x : Str} (h : x ∈ l) : x.length ≤ 50 := hl x h
theorem flat_link (f : List Int → List Str) (n : Nat) : ∀ ls : List (List Int), (∀ l ∈ ls, (f l).length ≤ n) → ((ls.map f).flatten).length ≤ ls.length * n
  | [], _ => Nat.zero_le _
  | l :: ls, h => by
    have h1 := h l (List.mem_cons_self ..)
    have h2 := flat_link f n ls fun x hx => h x (List.mem_cons_of_mem _ hx)
    rw [List.map_cons, List.flatten_cons, List.length_append, List.length_cons, Nat.succ_mul]
    omega
theorem kind_row {many : Int} {k : Kind} (ok : KindOk many k) (hm : many ≤ 3) : RowOk (kindW k) := by
  have lk := kind_links ok
  have fl : ((k.2.map linkW).flatten).length ≤ k.2.length * 101 := flat_link linkW 101 k.2 fun l hl => by
    show (l.map istr).length + 1 ≤ 101
    rw [List.length_map]
    have := (ok.each l hl).len0
    omega
  have fl' : k.2.length * 101 ≤ 3 * 101 := Nat.mul_le_mul_right _ lk
  refine ⟨by show ((k.2.map linkW).flatten).length + 1 + 1 ≤ 1000; omega, fun w hw => ?_⟩
  rcases List.mem_cons.mp hw with rfl | hw
  · decide +kernel
  · rcases List.mem_cons.mp hw with rfl | hw
    · exact len12 (by have := ok.lo; omega) (by have := ok.hi; omega)
    · obtain ⟨ws, hws, hw⟩ := List.mem_flatten.mp hw
      obtain ⟨l, hl, rfl⟩ := List.mem_map.mp hws
      rcases List.mem_cons.mp hw with rfl | hw
      · decide +kernel
      · obtain ⟨i, hi, rfl⟩ := List.mem_map.mp hw
        have := (ok.each l hl).rng i hi
        exact len12 this.1 (by omega)
theorem opt_len {z : Str} {o : Option Int} (hz : z.length ≤ 50) (h : ∀ v, o = some v → 0 ≤ v ∧ v ≤ 12) : (optS z o).length ≤ 50 := by
  cases o with
  | none => exact hz
  | some i => exact len12 (h i rfl).1 (h i rfl).2
theorem wlot_len {l ws : List Str} (o : WLotOk ws l) (hl : ∀ x ∈ ws, x.length ≤ 50) : ∀ w ∈ l, w.length ≤ 50 := fun w hw => hl w (o.mem w hw)
theorem coll_row {c : Cl} (ok : CollOk c) : RowOk (collW c) := by
  have hc : ("collector" : Str).length ≤ 50 := by decide +kernel
  cases c with
  | none => exact .two hc (by decide +kernel)
  | halves => exact .two hc (by decide +kernel)
  | counts m o =>
    refine .cons hc (by show 3 ≤ 900; decide) fun w hw => ?_
    rcases List.mem_cons.mp hw with rfl | hw
    · exact wordC_len (.counts m o)
    · rcases List.mem_cons.mp hw with rfl | hw
      · exact opt_len (by decide +kernel) fun v e => by have := ok.1 v e; omega
      · rcases List.mem_cons.mp hw with rfl | hw
        · exact mem_len (l := lORDERS) (by decide +kernel) ok.2
        · cases hw
  | marks gs =>
    have h1 : gs.length ≤ 100 := WLotOk.len0 ok
    refine .cons hc (by show gs.length + 1 ≤ 900; omega) fun w hw => ?_
    rcases List.mem_cons.mp hw with rfl | hw
    · exact wordC_len (.marks gs)
    · exact wlot_len (show WLotOk lGUARDS gs from ok) (by decide +kernel) w hw
  | young n r =>
    refine .cons hc (by show 3 ≤ 900; decide) fun w hw => ?_
    rcases List.mem_cons.mp hw with rfl | hw
    · exact wordC_len (.young n r)
    · rcases List.mem_cons.mp hw with rfl | hw
      · exact len12 (by have := ok.1.1; omega) (by have := ok.1.2; omega)
      · rcases List.mem_cons.mp hw with rfl | hw
        · exact mem_len (l := lREMEMBERS) (by decide +kernel) ok.2
        · cases hw
theorem rows_ok {h : Hs} (P : PartsOk h) : ∀ ws ∈ houseL h, RowOk ws := fun ws hws => by
  have many3 : ((h.kinds.length : Nat) : Int) ≤ 3 := by have := P.k2; omega
  rcases List.mem_cons.mp hws with rfl | hws
  · exact .two (by decide +kernel) (len12 (by have := P.c1; omega) P.c2)
  · rcases List.mem_append.mp hws with hws | hws
    · obtain ⟨k, hk, rfl⟩ := List.mem_map.mp hws
      exact kind_row (P.kinds k hk) many3
    · have hws' : ws = [("registers" : Str), istr h.registers] ∨ ws = [("live" : Str), istr h.live] ∨ ws = [("rooms" : Str), h.rooms] ∨ ws = collW h.coll ∨ ws = [("pace" : Str), optS "free" h.pace] ∨ ws = [("need" : Str), h.need] ∨ ws = [("slide" : Str), truthW h.slide] ∨ ws = ("asked" : Str) :: h.asked := by
        simpa [tailL] using hws
      rcases hws' with rfl | rfl | rfl | rfl | rfl | rfl | rfl | rfl
      · exact .two (by decide +kernel) (len12 (by have := P.r1; omega) (by have := P.r2; omega))
      · exact .two (by decide +kernel) (len12 (by have := P.l1; omega) P.l2)
      · exact .two (by decide +kernel) (mem_len (l := lROOMS) (by decide +kernel) P.rooms)
      · exact coll_row P.coll
      · exact .two (by decide +kernel) (opt_len (by decide +kernel) fun v e => by have := P.pace v e; omega)
      · exact .two (by decide +kernel) (mem_len (l := lNEEDS) (by decide +kernel) P.need)
      · exact .two (by decide +kernel) (by cases h.slide <;> decide +kernel)
      · exact .cons (by decide +kernel) (by have := P.asked.len0; omega) (wlot_len P.asked (by decide +kernel))
theorem lines_len {h : Hs} (P : PartsOk h) : (houseL h).length ≤ 12 := by
  show (h.kinds.map kindW ++ tailL h).length + 1 ≤ 12
  rw [List.length_append, List.length_map]
  have : (tailL h).length = 8 := rfl
  have := P.k2
  omega
theorem row_size {ws : List Str} (o : RowOk ws) : (ws.map (·.length)).sum + ws.length * 1 ≤ 51000 := by
  have h1 := sum_le (g := fun w : Str => w.length) (n := 50) (l := ws) o.each
  have h2 : ws.length * 50 ≤ 1000 * 50 := Nat.mul_le_mul_right _ o.len
  have h3 := o.len
  omega
theorem row_join {ws : List Str} (o : RowOk ws) : (Txt.join " " ws).length ≤ 51000 := by
  have h1 := join_len " " ws
  have h2 := row_size o
  have e : (" " : Str).length = 1 := by decide +kernel
  rw [e] at h1
  omega
theorem text_size {h : Hs} (P : PartsOk h) : (((houseL h).map (Txt.join " ")).map (·.length)).sum + ((houseL h).map (Txt.join " ")).length * 1 ≤ 700000 := by
  have h1 := sum_le (g := fun w : Str => w.length) (n := 51000) (l := (houseL h).map (Txt.join " ")) fun w hw => by
    obtain ⟨ws, hws, rfl⟩ := List.mem_map.mp hw
    exact row_join (rows_ok P ws hws)
  rw [List.length_map] at h1 ⊢
  have h2 := lines_len P
  have h3 : (houseL h).length * 51000 ≤ 12 * 51000 := Nat.mul_le_mul_right _ h2
  omega
theorem houseT_len {h : Hs} (P : PartsOk h) : (houseT h).length ≤ 700000 := by
  have h1 := join_len "\n" ((houseL h).map (Txt.join " "))
  have h2 := text_size P
  have e : ("\n" : Str).length = 1 := by decide +kernel
  rw [e] at h1
  unfold houseT
  omega
section
variable {K : PySem.W.Frag} {A : Ads} {S : Addr → Prop} {σ : L2.St} {H H' H1 : Hp} {E : XK} {q p : Addr} {h : Hs}
def lD (ws : List Str) : D := .lst (ws.map D.str)
theorem linesD_eq (ls : List (List Str)) : linesD ls = .lst (ls.map lD) := rfl
theorem ev_row2 {te : TE} {a w : Str} (m : Mem S H) (he : EvD K S te σ H (.str w)) : EvD K S (tLst (tCons (tC (.str a)) (tCons te tNil))) σ H (lD [a, w]) := ev_lst m (ea_cons m ev_str (ea_cons m he ea_nil)) (by show 2 ≤ _; decide)
theorem ev_str12 {te : TE} {i : Int} (m : Mem S H) (he : EvD K S te σ H (.int i)) (h0 : 0 ≤ i) (h1 : i ≤ 12) : EvD K S (tCB rStrI (tCons te tNil)) σ H (.str (istr i)) := ev_cb (ev_a1 he) (ra_str (log12 h0 h1))
theorem ev_kindw {te : TE} {k : Kind} {many : Int} (m : Mem S H) (he : EvD K S te σ H (kindD k)) (ok : KindOk many k) (hm : many ≤ 3) : EvD K S (tCall (spKindW K) [] E0 (tCons te tNil)) σ H (lD (kindW k)) := fun H1 e Q kk => he H1 e _ fun v H2 e2 r2 =>
  ⟨S, v, k, many, rfl, m.ex (e.trans e2), r2, ok, hm, fun u H3 e3 r3 => kk u H3 (e2.trans e3) r3⟩
def spRows (K : PySem.W.Frag) (A : Ads) : Sp := fun vs H Q _ => ∃ S q h, vs = [.ref q] ∧ Mem S H ∧ HouseF K A S H q h ∧ PartsOk h ∧ ∀ v H', Ex H H' → Rp K S H' v (linesD (houseL h)) → Q v H'
theorem HouseF.up {S' : Addr → Prop} (u : Up K S H S' H') (o : ∀ u, H q = some u → H' q = some u) (a : HouseF K A S H q h) : HouseF K A S' H' q h := by
  obtain ⟨dx, vs, h1, h2⟩ := a
  exact ⟨dx, vs, o _ h1, u.arr h2⟩
theorem pr_rows (X : Hx A K) (Y : Tp A K) (vs : List V) (H : Hp) (Q : VK) (E : XK) (hh : spRows K A vs H Q E) : t_house_rows K A E (spKindW K) (spCollW K) { nx := fun _ H' => Q .non H', rt := Q } (start ["house", "rows", "kind"] vs) H := by
  obtain ⟨S, q, h, rfl, m, a, P, k⟩ := hh
  show t_house_rows K A E (spKindW K) (spCollW K) { nx := fun _ H' => Q .non H', rt := Q } [some (.ref q), none, none] H
  have many3 : ((h.kinds.length : Nat) : Int) ≤ 3 := by have := P.k2; omega
  have hcells : EvD K S (tFld K (tVar 0) "cells") [some (.ref q), none, none] H (.int h.cells) := a.fld X m rfl (by decide) rfl
  have hkinds : EvD K S (tFld K (tVar 0) "kinds") [some (.ref q), none, none] H (kindsD h.kinds) := a.fld X m rfl (by decide) rfl
  have hlc := ev_map (i := 2) (te := tCall (spKindW K) [] E0 (tCons (tVar 2) tNil)) (f := fun d => lD (kindW (unK d))) m (ei_seq m hkinds rfl) (by show (h.kinds.map kindD).length ≤ _; rw [List.length_map]; have := P.k2; omega) fun S' H' m' up ex x e he rx => by
    have he' : e ∈ h.kinds.map kindD := he
    obtain ⟨kd, hk, rfl⟩ := List.mem_map.mp he'
    refine ⟨rfl, (ev_kindw m' (ev_var (i := 2) m' rfl rx) (P.kinds kd hk) many3).is ?_⟩
    rw [unK_eq]
  have hkw : (items (kindsD h.kinds)).map (fun d => lD (kindW (unK d))) = h.kinds.map fun kd => lD (kindW kd) := by
    show (h.kinds.map kindD).map _ = _
    rw [List.map_map]
    refine List.map_congr_left fun kd _ => ?_
    show lD (kindW (unK (kindD kd))) = _
    rw [unK_eq]
  rw [hkw] at hlc
  refine ts_newL (ds := lD ["cells", istr h.cells] :: (h.kinds.map (fun kd => lD (kindW kd)) ++ [])) m (ea_cons m (ev_row2 m (ev_str12 m hcells (by have := P.c1; omega) P.c2)) (ea_star m hlc ea_nil)) (by rw [List.length_cons, List.append_nil, List.length_map]; have := P.k2; omega) fun p us1 H1 hp e1 m1 U1 hp1 r1 => ?_
  have sp : plus S p p := .inr rfl
  have a1 : HouseF K A (plus S p) H1 q h := a.up U1 fun u z => e1 _ _ z
  have fl1 : ∀ {f : Str} {d : D}, f ∈ hF → (hF.zip (hsD h)).lookup f = some d → EvD K (plus S p) (tFld K (tVar 0) f) [some (.ref q), some (.ref p), none] H1 d := fun hm hf => a1.fld X m1 rfl hm hf
  refine ts_extD (i := 1) (es := [lD ["registers", istr h.registers], lD ["live", istr h.live], lD ["rooms", h.rooms]]) m1 rfl hp1 sp r1 (ev_lst m1 (ea_cons m1 (ev_row2 m1 (ev_str12 m1 (fl1 (by decide) rfl) (by have := P.r1; omega) (by have := P.r2; omega))) (ea_cons m1 (ev_row2 m1 (ev_str12 m1 (fl1 (by decide) rfl) (by have := P.l1; omega) P.l2)) (ea_cons m1 (ev_row2 m1 (fl1 (by decide) rfl)) ea_nil))) (by show 3 ≤ _; decide))
    (by rw [List.length_cons, List.append_nil, List.length_map]; have := P.k2; show _ + 1 + 3 ≤ _; omega) fun us2 H2 x2 m2 u2 hp2 r2 => ?_
  have ne : q ≠ p := fun z => by
    obtain ⟨dx, vs, h1, _⟩ := a
    rw [z, hp] at h1; cases h1
  have a2 : HouseF K A (plus S p) H2 q h := a1.up u2 fun u z => x2 _ _ ne z
  have fl2 : ∀ {f : Str} {d : D}, f ∈ hF → (hF.zip (hsD h)).lookup f = some d → EvD K (plus S p) (tFld K (tVar 0) f) [some (.ref q), some (.ref p), none] H2 d := fun hm hf => a2.fld X m2 rfl hm hf
  have hpace : EvD K (plus S p) (tIf (tTest (tOp rIsN (tFld K (tVar 0) "pace") (tC .non))) (tC (.str "free")) (tCB rStrI (tCons (tFld K (tVar 0) "pace") tNil))) [some (.ref q), some (.ref p), none] H2 (.str (optS "free" h.pace)) := by
    have a0 : EvD K (plus S p) (tFld K (tVar 0) "pace") [some (.ref q), some (.ref p), none] H2 (optD h.pace) := fl2 (by decide) rfl
    have hP := P.pace
    revert a0 hP
    cases h.pace with
    | none => exact fun a0 _ => ev_if (b := true) (eb_T (ev_op m2 a0 ev_non r_isN)) (fun _ => ev_str) fun z => by cases z
    | some i => exact fun a0 hP => ev_if (b := false) (eb_T (ev_op m2 a0 ev_non r_isN)) (fun z => by cases z) fun _ => ev_str12 m2 a0 (hP i rfl).1 (by have := (hP i rfl).2; omega)
  have hcw : EvD K (plus S p) (tCall (spCollW K) [] E0 (tCons (tFld K (tVar 0) "collector") tNil)) [some (.ref q), some (.ref p), none] H2 (lD (collW h.coll)) := by
    have := ev_pure m2 (ev_a1 (fl2 (f := "collector") (d := collD h.coll) (by decide) rfl)) (n := 1) (pre := fun ds => ∃ c, ds = [collD c] ∧ CollOk c) (f := at1 collWD) (E := E0) rfl ⟨h.coll, rfl, P.coll⟩
    rw [collw_eq] at this
    exact this
  refine ts_extD (i := 1) (es := [lD (collW h.coll), lD ["pace", optS "free" h.pace]]) m2 rfl hp2 sp r2 (ev_lst m2 (ea_cons m2 hcw (ea_cons m2 (ev_row2 m2 hpace) ea_nil)) (by show 2 ≤ _; decide)) (by rw [List.length_append, List.length_cons, List.append_nil, List.length_map]; have := P.k2; show _ + 1 + 3 + 2 ≤ _; omega) fun us3 H3 x3 m3 u3 hp3 r3 => ?_
  have a3 : HouseF K A (plus S p) H3 q h := a2.up u3 fun u z => x3 _ _ ne z
  have fl3 : ∀ {f : Str} {d : D}, f ∈ hF → (hF.zip (hsD h)).lookup f = some d → EvD K (plus S p) (tFld K (tVar 0) f) [some (.ref q), some (.ref p), none] H3 d := fun hm hf => a3.fld X m3 rfl hm hf
  have hslide : EvD K (plus S p) (tOp (rIx K) (tC (.ref A.tTRUTHS)) (tCB rIntI (tCons (tFld K (tVar 0) "slide") tNil))) [some (.ref q), some (.ref p), none] H3 (.str (truthW h.slide)) := by
    have a0 : EvD K (plus S p) (tFld K (tVar 0) "slide") [some (.ref q), some (.ref p), none] H3 (.bl h.slide) := fl3 (by decide) rfl
    revert a0
    cases h.slide with
    | false => exact fun a0 => ev_op m3 (ev_T Y.truths) (ev_cb (ev_a1 a0) ra_intB) (r_ixQ' (j := 0) seq_T rfl rfl)
    | true => exact fun a0 => ev_op m3 (ev_T Y.truths) (ev_cb (ev_a1 a0) ra_intB) (r_ixQ' (j := 1) seq_T rfl rfl)
  have hasked : EvD K (plus S p) (tLst (tCons (tC (.str "asked")) (tStar K (tFld K (tVar 0) "asked") tNil))) [some (.ref q), some (.ref p), none] H3 (lD ("asked" :: h.asked)) := by
    refine (ev_lst m3 (ea_cons m3 ev_str (ea_starT (ds := h.asked.map D.str) m3 (fl3 (by decide) rfl) ea_nil)) ?_).is ?_
    · rw [List.length_cons, List.append_nil, List.length_map]; have := P.asked.len; omega
    · rw [List.append_nil]; rfl
  refine ts_extD (i := 1) (es := [lD ["need", h.need], lD ["slide", truthW h.slide], lD ("asked" :: h.asked)]) m3 rfl hp3 sp r3 (ev_lst m3 (ea_cons m3 (ev_row2 m3 (fl3 (by decide) rfl)) (ea_cons m3 (ev_row2 m3 hslide) (ea_cons m3 hasked ea_nil))) (by show 3 ≤ _; decide)) (by rw [List.length_append, List.length_append, List.length_cons, List.append_nil, List.length_map]; have := P.k2; show _ + 1 + 3 + 2 + 3 ≤ _; omega) fun us4 H4 x4 m4 u4 hp4 r4 => ?_
  refine ⟨.ref p, rfl, k _ H4 (ex_new (ex_new (ex_new e1 hp x2) hp x3) hp x4) ?_⟩
  rw [linesD_eq]
  refine .lst ⟨hp4, m.new hp⟩ (RpA.less (S := plus S p) (fun _ z => .inl z) ?_)
  have e : (lD ["cells", istr h.cells] :: (h.kinds.map (fun kd => lD (kindW kd)) ++ [])) ++ [lD ["registers", istr h.registers], lD ["live", istr h.live], lD ["rooms", h.rooms]] ++ [lD (collW h.coll), lD ["pace", optS "free" h.pace]] ++ [lD ["need", h.need], lD ["slide", truthW h.slide], lD ("asked" :: h.asked)] = (houseL h).map lD := by
    show _ = lD ["cells", istr h.cells] :: (h.kinds.map kindW ++ tailL h).map lD
    rw [List.map_append, List.map_map, List.append_nil]
    simp only [List.cons_append, List.append_assoc]
    rfl
  rw [← e]
  exact r4
/-! ### house_text -/
def spHouseText (K : PySem.W.Frag) (A : Ads) : Sp := fun vs H Q E => ∃ S v, vs = [v] ∧ Mem S H ∧
  ((∃ q h, v = .ref q ∧ HouseAt K A S H q h ∧ PartsOk h ∧ ∀ H', Ex H H' → Q (.str (houseT h)) H') ∨
   (∃ d, Rp K S H v d ∧ d.base = true ∧ ∀ e H', Ex H H' → H e = none → H' e = some (.xd [("part", .str "house")]) → E (.ref A.cBadHouse) (some e) H'))
theorem pr_housetext (vs : List V) (H : Hp) (Q : VK) (E : XK) (hh : spHouseText K A vs H Q E) : t_house_text K A E (spNeedHouse K A) (spRows K A) { nx := fun _ H' => Q .non H', rt := Q } (start ["house", "row"] vs) H := by
  obtain ⟨S, v, rfl, m, hh⟩ := hh
  show t_house_text K A E (spNeedHouse K A) (spRows K A) { nx := fun _ H' => Q .non H', rt := Q } [some v, none] H
  rcases hh with ⟨q, h, rfl, a, P, k⟩ | ⟨d, r, hb, k⟩
  · refine td_seq ⟨.ref q, rfl, S, _, _, rfl, m, by decide +kernel, .inl ⟨q, h, rfl, a, fun H1 e1 => ?_⟩⟩
    have m1 := m.ex e1
    have hrows : EvD K S (tCall (spRows K A) [] E0 (tCons (tVar 0) tNil)) [some (.ref q), none] H1 (linesD (houseL h)) := fun G e Q kk => ⟨.ref q, rfl, S, q, h, rfl, m1.ex e, a.2.ex m (e1.trans e), P, kk⟩
    have hl := ev_map (i := 1) (te := tM1 (rJoin K) (tC (.str " ")) (tVar 1)) (f := fun d => .str (Txt.join " " (unW d))) m1 (ei_seq m1 hrows rfl) (by show ((houseL h).map lD).length ≤ _; rw [List.length_map]; have := lines_len P; omega) fun S' H' m' up ex x e he rx => by
      have he' : e ∈ (houseL h).map lD := he
      obtain ⟨ws, hws, rfl⟩ := List.mem_map.mp he'
      refine ⟨rfl, (ev_join (ys := ws) m' ev_str (ev_var (i := 1) m' rfl rx) ?_).is ?_⟩
      · have h1 := row_size (rows_ok P ws hws)
        have e : (" " : Str).length = 1 := by decide +kernel
        rw [e]; omega
      · show _ = D.str (Txt.join " " (unW (.lst (ws.map D.str))))
        rw [unW_eq]
    have hk : (items (linesD (houseL h))).map (fun d => D.str (Txt.join " " (unW d))) = ((houseL h).map (Txt.join " ")).map D.str := by
      show ((houseL h).map lD).map _ = _
      rw [List.map_map, List.map_map]
      refine List.map_congr_left fun ws _ => ?_
      show D.str (Txt.join " " (unW (.lst (ws.map D.str)))) = D.str (Txt.join " " ws)
      rw [unW_eq]
    rw [hk] at hl
    refine ts_ret (K := K) (S := S) (ev_join (a := "\n") m1 ev_str hl ?_) fun u H2 e2 r2 => ?_
    · have h1 := text_size P
      have e : ("\n" : Str).length = 1 := by decide +kernel
      rw [e]; omega
    · cases r2
      exact k H2 (e1.trans e2)
  · exact td_seq ⟨v, rfl, S, _, _, rfl, m, by decide +kernel, .inr ⟨d, r, hb, k⟩⟩
end
end Nv
set_option Elab.async false
set_option linter.all false
set_option maxRecDepth 100000
set_option maxHeartbeats 4000000
/-! Promises of the readers, where all goes well. -/
namespace Nv
open PySem PySem.Spec PyProof.Rows L2 StX NvZ
structure LinesG (ls : List (List Str)) : Prop where
  many : ls.length ≤ 900
  each : ∀ ws ∈ ls, ws.length ≤ 1000 ∧ ∀ w ∈ ws, wdB w = true
theorem LinesG.plc {ls : List (List Str)} {l a : Nat} (G : LinesG ls) (hl : l ≤ ls.length) (ha : l < ls.length → a ≤ (ls.getD l []).length) (h0 : l = ls.length → a = 0) : Plc ls l a := ⟨by have := G.many; omega, G.each, hl, ha, by
  by_cases h : l < ls.length
  · have h1 := ha h
    have h2 := (G.each _ (getD_mem h)).1
    omega
  · have := h0 (by omega)
    omega⟩
theorem fig12 {i lo hi : Int} (h0 : 0 ≤ i) (h1 : i ≤ 12) (g0 : lo ≤ i) (g1 : i ≤ hi) : figB (istr i) lo hi = true ∧ num (istr i) = i := by
  have hn : ∀ i ∈ to12, num (istr i) = i := by decide +kernel
  have hb : ∀ i ∈ to12, (!(decide ((1 : Int) ≤ (istr i).length) && decide (((istr i).length : Int) ≤ 9)) || !digits (istr i)) = false ∧ (decide (istr i = "0") || !decide (head0 (istr i) = "0")) = true := by decide +kernel
  have e := hn i (mem12 h0 h1)
  obtain ⟨b1, b2⟩ := hb i (mem12 h0 h1)
  refine ⟨?_, e⟩
  unfold figB
  rw [b1, b2, e, if_neg Bool.false_ne_true, decide_eq_true g0, decide_eq_true g1]; rfl
section
variable {K : PySem.W.Frag} {A : Ads} {S : Addr → Prop} {σ : L2.St} {H H' H1 : Hp} {E : XK} {q p : Addr} {ls : List (List Str)} {l a : Nat}
/-- the scan has gone on, a value was given -/
def Gv (K : PySem.W.Frag) (A : Ads) (S : Addr → Prop) (H : Hp) (q : Addr) (ls : List (List Str)) (l a : Nat) (d : D) (Q : VK) : Prop := ∀ v H', Ex1 q H H' → Mem S H' → ScanAt K A S H' q ls l a → Rp K S H' v d → Q v H'
theorem Gv.mono {d : D} {Q : VK} (h : Gv K A S H q ls l a d Q) (e : Ex1 q H H') : Gv K A S H' q ls l a d Q := fun v G x m s r => h v G (e.trans x) m s r
theorem ahead_some {w : Str} (hl : l < ls.length) (hw : (ls.getD l [])[a]? = some w) : aheadO ls l a = some w := (ahead_line hl).trans hw
theorem ahead_end (hl : l < ls.length) (ha : a = (ls.getD l []).length) : aheadO ls l a = none := (ahead_line hl).trans (List.getElem?_eq_none (by omega))
theorem ok_takeof {i : Nat} {te : TE} {d : D} {ws : List Str} {w : Str} {Q : VK} (G : LinesG ls) (m : Mem S H) (hσ : σ[i]? = some (some (.ref q))) (hs : ScanAt K A S H q ls l a) (hl : l < ls.length) (hw : (ls.getD l [])[a]? = some w)
    (he : EvD K S te σ H d) (hq : SeqD d (ws.map D.str)) (hm : w ∈ ws) (k : Gv K A S H q ls l (a + 1) (.str w) Q) : tMeth A.cScan "take_of" (spTakeOf K A) [] E (tVar i) (tCons te tNil) σ H Q := by
  have ha : a < (ls.getD l []).length := (List.getElem?_eq_some_iff.mp hw).1
  refine cx_takeof (ws := ws) m hσ hs (G.plc (by omega) (fun _ => by omega) (fun z => by omega)) ?_ ?_
  · rcases hq with rfl | rfl
    · exact .inl (ev_a1 he)
    · exact .inr (ev_a1 he)
  · rw [ahead_some hl hw]
    show (if w ∈ ws then _ else _)
    rw [if_pos hm]
    exact fun G x mm s => k _ G x mm s (.str w)
theorem ok_takenum {i : Nat} {ta : TA} {lo hi n : Int} {Q : VK} (G : LinesG ls) (m : Mem S H) (hσ : σ[i]? = some (some (.ref q))) (hs : ScanAt K A S H q ls l a) (hl : l < ls.length) (hw : (ls.getD l [])[a]? = some (istr n))
    (he : EvA K S ta σ H [.int lo, .int hi]) (h0 : 0 ≤ n) (h1 : n ≤ 12) (g0 : lo ≤ n) (g1 : n ≤ hi) (k : Gv K A S H q ls l (a + 1) (.int n) Q) : tMeth A.cScan "take_number" (spTakeNum K A) [] E (tVar i) ta σ H Q := by
  have ha : a < (ls.getD l []).length := (List.getElem?_eq_some_iff.mp hw).1
  obtain ⟨f1, f2⟩ := fig12 h0 h1 g0 g1
  refine cx_takenum m hσ hs (G.plc (by omega) (fun _ => by omega) (fun z => by omega)) he ?_
  rw [ahead_some hl hw]
  show (if figB (istr n) lo hi = true then _ else _)
  rw [if_pos f1, f2]
  exact fun G x mm s => k _ G x mm s (.int n)
theorem ok_endline {i : Nat} {Q : VK} (G : LinesG ls) (m : Mem S H) (hσ : σ[i]? = some (some (.ref q))) (hs : ScanAt K A S H q ls l a) (hl : l < ls.length) (ha : a = (ls.getD l []).length) (k : Gv K A S H q ls (l + 1) 0 .non Q) : tMeth A.cScan "end_line" (spEndLine K A) [] E (tVar i) tNil σ H Q := by
  refine cx_endline m hσ hs (G.plc (by omega) (fun _ => by omega) (fun z => by omega)) ?_
  rw [ahead_end hl ha, if_neg (by rintro (z | z); cases z; omega)]
  intro H' x s
  have sq := s.1
  exact k _ H' x (Ex1.exS m sq x s.there).mem s .non
theorem ok_ahead {i : Nat} (G : LinesG ls) (m : Mem S H) (hσ : σ[i]? = some (some (.ref q))) (hs : ScanAt K A S H q ls l a) (hl : l < ls.length) (ha : a ≤ (ls.getD l []).length) : EvD K S (tMeth A.cScan "ahead" (spAhead K A) [] E0 (tVar i) tNil) σ H (wD (ls.getD l [])[a]?) := by
  have := ev_ahead (K := K) (A := A) m hσ hs (G.plc (by omega) (fun _ => ha) (fun z => by omega))
  rwa [ahead_line hl] at this
theorem ev_one {te : TE} {w : Str} (m : Mem S H) (he : EvD K S te σ H (.str w)) : EvD K S (tTup (tCons te tNil)) σ H (.tup ([w].map D.str)) := ev_tup m (ev_a1 he) (by show 1 ≤ _; decide)
theorem Gv.scanUp {d : D} (m : Mem S H) (hs : ScanAt K A S H q ls l a) (x : Ex1 q H H') (ht : ∃ o, H' q = some o) : Up K S H S H' := Up.exS (Ex1.exS m hs.1 x ht)
/-! ### taken_after, taken_word -/
def spAfter (K : PySem.W.Frag) (A : Ads) : Sp := fun vs H Q _ => ∃ S q ls l w lo hi n, vs = [.ref q, .str w, .int lo, .int hi] ∧ Mem S H ∧ ScanAt K A S H q ls l 0 ∧ LinesG ls ∧ l < ls.length ∧ ls.getD l [] = [w, istr n] ∧ 0 ≤ n ∧ n ≤ 12 ∧ lo ≤ n ∧ n ≤ hi ∧ Gv K A S H q ls (l + 1) 0 (.int n) Q
theorem pr_after (vs : List V) (H : Hp) (Q : VK) (E : XK) (hh : spAfter K A vs H Q E) : t_taken_after K A E (spTakeOf K A) (spTakeNum K A) (spEndLine K A) { nx := fun _ H' => Q .non H', rt := Q } (start ["scan", "word", "least", "most", "found"] vs) H := by
  obtain ⟨S, q, ls, l, w, lo, hi, n, rfl, m, hs, G, hl, hg, h0, h1, g0, g1, k⟩ := hh
  show t_taken_after K A E (spTakeOf K A) (spTakeNum K A) (spEndLine K A) { nx := fun _ H' => Q .non H', rt := Q } [some (.ref q), some (.str w), some (.int lo), some (.int hi), none] H
  refine td_seq (ok_takeof (w := w) (ws := [w]) G m rfl hs hl (by rw [hg]; rfl) (ev_one m (ev_var (i := 1) m rfl (.str w))) (.inr rfl) (List.mem_singleton.mpr rfl) fun _ H1 x1 m1 s1 _ => ?_)
  refine ts_setk (ok_takenum (i := 0) (n := n) G m1 rfl s1 hl (by rw [hg]; rfl) (ea_cons m1 (ev_var (i := 2) m1 rfl (.int lo)) (ea_cons m1 (ev_var (i := 3) m1 rfl (.int hi)) ea_nil)) h0 h1 g0 g1 fun v H2 x2 m2 s2 r2 => ?_)
  cases r2
  refine td_seq (ok_endline (i := 0) G m2 rfl s2 hl (by rw [hg]; rfl) fun _ H3 x3 m3 s3 _ => ?_)
  exact ⟨_, rfl, k _ H3 ((x1.trans x2).trans x3) m3 s3 (.int n)⟩
def spTWord (K : PySem.W.Frag) (A : Ads) : Sp := fun vs H Q _ => ∃ S q ls l w vw d, ∃ ws : List Str, ∃ x : Str, vs = [.ref q, .str w, vw] ∧ Mem S H ∧ ScanAt K A S H q ls l 0 ∧ LinesG ls ∧ l < ls.length ∧ ls.getD l [] = [w, x] ∧ Rp K S H vw d ∧ SeqD d (ws.map D.str) ∧ x ∈ ws ∧ Gv K A S H q ls (l + 1) 0 (.str x) Q
theorem pr_tword (vs : List V) (H : Hp) (Q : VK) (E : XK) (hh : spTWord K A vs H Q E) : t_taken_word K A E (spTakeOf K A) (spEndLine K A) { nx := fun _ H' => Q .non H', rt := Q } (start ["scan", "word", "words", "found"] vs) H := by
  obtain ⟨S, q, ls, l, w, vw, d, ws, x, rfl, m, hs, G, hl, hg, r, hq, hx, k⟩ := hh
  show t_taken_word K A E (spTakeOf K A) (spEndLine K A) { nx := fun _ H' => Q .non H', rt := Q } [some (.ref q), some (.str w), some vw, none] H
  refine td_seq (ok_takeof (w := w) (ws := [w]) G m rfl hs hl (by rw [hg]; rfl) (ev_one m (ev_var (i := 1) m rfl (.str w))) (.inr rfl) (List.mem_singleton.mpr rfl) fun _ H1 x1 m1 s1 _ => ?_)
  have r1 : Rp K S H1 vw d := Gv.scanUp (d := .non) m hs x1 s1.there _ _ r
  refine ts_setk (ok_takeof (i := 0) (w := x) (ws := ws) G m1 rfl s1 hl (by rw [hg]; rfl) (ev_var (i := 2) m1 rfl r1) hq hx fun v H2 x2 m2 s2 r2 => ?_)
  cases r2
  refine td_seq (ok_endline (i := 0) G m2 rfl s2 hl (by rw [hg]; rfl) fun _ H3 x3 m3 s3 _ => ?_)
  exact ⟨_, rfl, k _ H3 ((x1.trans x2).trans x3) m3 s3 (.str x)⟩
/-! ### taken_count, taken_pace -/
def optOk (lo hi : Int) (o : Option Int) : Prop := ∀ v, o = some v → lo ≤ v ∧ v ≤ hi
theorem teqO {te : TE} {o : Option Str} {x : Str} (m : Mem S H) (h : EvD K S te σ H (wD o)) (ow : ∀ w, o = some w → PyData.strOk w = true) (ox : PyData.strOk x = true) : EvB (tTest (tOp (rEqD K) te (tC (.str x)))) σ H (decide (o = some x)) := by
  have hp : plainD (wD o) = true := by cases o with
    | none => rfl
    | some w => exact ow w rfl
  have := eb_T (ev_op m h (ev_str (i := x)) (r_eqD (d2 := .str x) hp ox (by cases o <;> exact Nat.zero_le _) (Nat.zero_le _)))
  have e : eqD (wD o) (.str x) = decide (o = some x) := by
    cases o with
    | none => rfl
    | some w =>
      show eqD (.str w) (.str x) = _
      rw [eqD_str]
      simp
  rwa [e] at this
theorem opt_ok {z : Str} {o : Option Int} (hz : PyData.strOk z = true) (h : ∀ v, o = some v → 0 ≤ v ∧ v ≤ 12) : PyData.strOk (optS z o) = true := by
  cases o with
  | none => exact hz
  | some i =>
    have : ∀ i ∈ to12, PyData.strOk (istr i) = true := by decide +kernel
    exact this i (mem12 (h i rfl).1 (h i rfl).2)
theorem opt_is {z : Str} {o : Option Int} (hz : ∀ i ∈ to12, ¬ istr i = z) (h : ∀ v, o = some v → 0 ≤ v ∧ v ≤ 12) : decide (some (optS z o) = some z) = o.isNone := by
  cases o with
  | none => exact decide_eq_true rfl
  | some i => exact decide_eq_false fun e => hz i (mem12 (h i rfl).1 (h i rfl).2) (Option.some.inj e)
def spCount (K : PySem.W.Frag) (A : Ads) : Sp := fun vs H Q _ => ∃ S q ls l a o, vs = [.ref q] ∧ Mem S H ∧ ScanAt K A S H q ls l a ∧ LinesG ls ∧ l < ls.length ∧ (ls.getD l [])[a]? = some (optS "-" o) ∧ optOk 1 3 o ∧ Gv K A S H q ls l (a + 1) (optD o) Q
theorem pr_count (vs : List V) (H : Hp) (Q : VK) (E : XK) (hh : spCount K A vs H Q E) : t_taken_count K A E (spAhead K A) (spTakeOf K A) (spTakeNum K A) { nx := fun _ H' => Q .non H', rt := Q } (start ["scan"] vs) H := by
  obtain ⟨S, q, ls, l, a, o, rfl, m, hs, G, hl, hw, ho, k⟩ := hh
  show t_taken_count K A E (spAhead K A) (spTakeOf K A) (spTakeNum K A) { nx := fun _ H' => Q .non H', rt := Q } [some (.ref q)] H
  have ho' : ∀ v, o = some v → 0 ≤ v ∧ v ≤ 12 := fun v e => by have := ho v e; omega
  have ha : a < (ls.getD l []).length := (List.getElem?_eq_some_iff.mp hw).1
  have hah := ok_ahead (i := 0) (σ := [some (.ref q)]) G m rfl hs hl (by omega)
  rw [hw] at hah
  have ht := (teqO (x := "-") m hah (fun w e => by cases e; exact opt_ok (by decide +kernel) ho') (by decide +kernel)).is (opt_is (by decide +kernel) ho')
  refine ts_ifseq ht fun H1 e1 => ?_
  have m1 := m.ex e1
  have s1 := hs.ex m e1
  cases o with
  | none =>
    rw [if_pos (show (none : Option Int).isNone = true from rfl)]
    refine td_seq (ok_takeof (i := 0) (w := "-") (ws := ["-"]) G m1 rfl s1 hl hw (ev_one m1 ev_str) (.inr rfl) (List.mem_singleton.mpr rfl) fun _ H2 x2 m2 s2 _ => ?_)
    exact k _ H2 ((Ex.ex1 e1).trans x2) m2 s2 .non
  | some i =>
    rw [if_neg (show ¬ (some i : Option Int).isNone = true from Bool.false_ne_true)]
    exact ok_takenum (i := 0) (n := i) G m1 rfl s1 hl hw (ea_cons m1 ev_int (ea_cons m1 ev_int ea_nil)) (ho' i rfl).1 (ho' i rfl).2 (ho i rfl).1 (ho i rfl).2 (k.mono (Ex.ex1 e1))
def spPace (K : PySem.W.Frag) (A : Ads) : Sp := fun vs H Q _ => ∃ S q ls l o, vs = [.ref q] ∧ Mem S H ∧ ScanAt K A S H q ls l 0 ∧ LinesG ls ∧ l < ls.length ∧ ls.getD l [] = [("pace" : Str), optS "free" o] ∧ optOk 0 6 o ∧ Gv K A S H q ls (l + 1) 0 (optD o) Q
theorem pr_pace (vs : List V) (H : Hp) (Q : VK) (E : XK) (hh : spPace K A vs H Q E) : t_taken_pace K A E (spTakeOf K A) (spAhead K A) (spTakeNum K A) (spEndLine K A) { nx := fun _ H' => Q .non H', rt := Q } (start ["scan", "found"] vs) H := by
  obtain ⟨S, q, ls, l, o, rfl, m, hs, G, hl, hg, ho, k⟩ := hh
  show t_taken_pace K A E (spTakeOf K A) (spAhead K A) (spTakeNum K A) (spEndLine K A) { nx := fun _ H' => Q .non H', rt := Q } [some (.ref q), none] H
  have ho' : ∀ v, o = some v → 0 ≤ v ∧ v ≤ 12 := fun v e => by have := ho v e; omega
  refine td_seq (ok_takeof (i := 0) (w := "pace") (ws := ["pace"]) G m rfl hs hl (by rw [hg]; rfl) (ev_one m ev_str) (.inr rfl) (List.mem_singleton.mpr rfl) fun _ H1 x1 m1 s1 _ => ?_)
  have hah := ok_ahead (i := 0) (σ := [some (.ref q), none]) (a := 1) G m1 rfl s1 hl (by rw [hg]; show 1 ≤ 2; decide)
  have hw : (ls.getD l [])[1]? = some (optS "free" o) := by rw [hg]; rfl
  rw [hw] at hah
  have ht := (teqO (x := "free") m1 hah (fun w e => by cases e; exact opt_ok (by decide +kernel) ho') (by decide +kernel)).is (opt_is (by decide +kernel) ho')
  refine ts_ifseq ht fun H2 e2 => ?_
  have m2 := m1.ex e2
  have s2 := s1.ex m1 e2
  have fin : ∀ v G', Ex1 q H2 G' → Mem S G' → ScanAt K A S G' q ls l 2 → Rp K S G' v (optD o) → (tSeq (tDrop (tMeth A.cScan "end_line" (spEndLine K A) [] E (tVar 0) tNil)) (tRet (tVar 1))) { nx := fun _ H' => Q .non H', rt := Q } [some (.ref q), some v] G' := fun v G' x' m' s' r' => by
    refine td_seq (ok_endline (i := 0) G m' rfl s' hl (by rw [hg]; rfl) fun _ H3 x3 m3 s3 _ => ?_)
    refine ⟨v, rfl, k _ H3 (((x1.trans (Ex.ex1 e2)).trans x').trans x3) m3 s3 ?_⟩
    cases o with
    | none => cases r'; exact .non
    | some i => cases r'; exact .int i
  cases o with
  | none =>
    rw [if_pos (show (none : Option Int).isNone = true from rfl)]
    refine td_seq (ok_takeof (i := 0) (w := "free") (ws := ["free"]) G m2 rfl s2 hl hw (ev_one m2 ev_str) (.inr rfl) (List.mem_singleton.mpr rfl) fun _ H3 x3 m3 s3 _ => ?_)
    exact fin .non H3 x3 m3 s3 .non
  | some i =>
    rw [if_neg (show ¬ (some i : Option Int).isNone = true from Bool.false_ne_true)]
    exact ok_takenum (i := 0) (n := i) G m2 rfl s2 hl hw (ea_cons m2 ev_int (ea_cons m2 ev_int ea_nil)) (ho' i rfl).1 (ho' i rfl).2 (ho i rfl).1 (ho i rfl).2 fun v G' x' m' s' r' => fin v G' x' m' s' r'
end
end Nv
set_option Elab.async false
set_option linter.all false
set_option maxRecDepth 100000
set_option maxHeartbeats 4000000
/-! Promises of the readers: lots, links. -/
namespace Nv
open PySem PySem.Spec PyProof.Rows L2 StX NvZ
/-- may x come behind gs? -/
def okw (gs : List Str) (x : Str) : Bool := match gs.getLast? with
  | none => true
  | some g => decide (g.cps.toList < x.cps.toList)
theorem pw_last {R : Str → Str → Prop} {gs : List Str} {n : Nat} {w : Str} (h : gs.Pairwise R) (hw : gs[n]? = some w) : ∀ g, (gs.take n).getLast? = some g → R g w := fun g hg => by
  have hlt : n < gs.length := (List.getElem?_eq_some_iff.mp hw).1
  have hne : gs.take n ≠ [] := fun z => by rw [z] at hg; cases hg
  have hn : 0 < n := by
    rcases Nat.eq_zero_or_pos n with z | z
    · rw [z] at hne; simp at hne
    · exact z
  have hl : (gs.take n).getLast? = gs[n - 1]? := by
    rw [List.getLast?_eq_getElem?, List.length_take, Nat.min_eq_left (by omega), List.getElem?_take_of_lt (by omega)]
  rw [hl] at hg
  obtain ⟨h1, e1⟩ := List.getElem?_eq_some_iff.mp hg
  obtain ⟨h2, e2⟩ := List.getElem?_eq_some_iff.mp hw
  rw [← e1, ← e2]
  exact List.pairwise_iff_getElem.mp h _ _ h1 h2 (by omega)
theorem okw_next {ws gs : List Str} {n : Nat} {w : Str} (ok : WLotOk ws gs) (hw : gs[n]? = some w) : w ∈ ws.filter (okw (gs.take n)) := by
  refine List.mem_filter.mpr ⟨ok.mem w (List.mem_of_getElem? hw), ?_⟩
  unfold okw
  cases hl : (gs.take n).getLast? with
  | none => rfl
  | some g => exact decide_eq_true (show g.cps.toList < w.cps.toList from pw_last ok.inc hw g hl)
/-- nothing is mutable -/
abbrev SN : Addr → Prop := fun _ => False
theorem memN {H : Hp} : Mem SN H := fun _ z => z.elim
theorem plainA_strs {gs : List Str} (h : ∀ g ∈ gs, PyData.strOk g = true) : plainA (gs.map D.str) = true := by
  induction gs with
  | nil => rfl
  | cons g gs ih =>
    show (PyData.strOk g && plainA (gs.map D.str)) = true
    rw [h g (List.mem_cons_self ..), ih fun x hx => h x (List.mem_cons_of_mem _ hx)]; rfl
theorem depA_flat {α : Type} {f : α → D} (hf : ∀ a, dep (f a) = 0) : ∀ l : List α, depA (l.map f) = 0
  | [] => rfl
  | a :: l => by
    show max (dep (f a)) (depA (l.map f)) = 0
    rw [hf a, depA_flat hf l]; rfl
theorem plainA_ints (gs : List Int) : plainA (gs.map D.int) = true := by
  induction gs with
  | nil => rfl
  | cons g gs ih => show (true && plainA (gs.map D.int)) = true; rw [ih]; rfl
theorem eqD_nil (ds : List D) : eqD (.lst ds) (.lst []) = ds.isEmpty := by cases ds <;> rfl
section
variable {K : PySem.W.Frag} {A : Ads} {S : Addr → Prop} {σ : L2.St} {H H' H1 : Hp} {E : XK} {q p : Addr} {ls : List (List Str)} {l a : Nat}
theorem ev_neg {te : TE} {i : Int} (h : EvD K S te σ H (.int i)) : EvD K S (tUn rNeg te) σ H (.int (-i)) := fun H1 e Q q => h H1 e _ fun v H2 e2 r2 => by
  cases r2
  exact ⟨i, rfl, q _ H2 e2 (.int _)⟩
theorem r_ixLast {ds : List D} {d : D} (h : ds.getLast? = some d) : R2D K S (rIx K) H (.lst ds) (.int (-1)) d := fun H1 _ x y rx ry Q k => by
  cases ry
  cases rx with
  | @lst p vs _ h1 h2 =>
    obtain ⟨us, v, hv⟩ : ∃ us v, vs = us ++ [v] := by
      have hl := h2.length
      have hd : ds ≠ [] := fun z => by rw [z] at h; cases h
      have : vs ≠ [] := fun z => by
        rw [z] at hl
        exact hd (List.length_eq_zero_iff.mp hl.symm)
      exact ⟨vs.dropLast, vs.getLast this, (List.dropLast_concat_getLast this).symm⟩
    subst hv
    have hl := h2.length
    have hget : (us ++ [v])[us.length]? = some v := by simp
    obtain ⟨d', hd', rd⟩ := h2.getV hget
    have hd2 : ds[us.length]? = some d := by
      have e : us.length = ds.length - 1 := by rw [← hl]; simp
      rw [e, ← List.getLast?_eq_getElem?]; exact h
    rw [hd2] at hd'
    cases hd'
    exact .inl ⟨p, _, -1, v, rfl, rfl, .inl (.inl h1.1), atI_last us v, k v H1 (Evl.Ex.refl _) rd⟩
/-- found == [] -/
theorem fnd_eq {i : Nat} {gs : List D} {vs : List V} (hσ : σ[i]? = some (some (.ref p))) (hp : H p = some (.lst vs)) (r : RpA K SN H vs gs) (hg : plainA gs = true) (hd : depA gs = 0) : EvB (tTest (tOp (rEqD K) (tVar i) (tLst tNil))) σ H gs.isEmpty := by
  have hr : Rp K SN H (.ref p) (.lst gs) := .lst ⟨hp, id⟩ r
  have := eb_T (ev_op memN (ev_var (σ := σ) (i := i) memN hσ hr) (ev_lst memN ea_nil (Nat.zero_le _)) (r_eqD (show plainD (.lst gs) = true from hg) rfl (by show depA gs + 1 ≤ 64; rw [hd]; decide) (by decide)))
  rwa [eqD_nil] at this
theorem fnd_ne {i : Nat} {gs : List D} {vs : List V} (hσ : σ[i]? = some (some (.ref p))) (hp : H p = some (.lst vs)) (r : RpA K SN H vs gs) (hg : plainA gs = true) (hd : depA gs = 0) : EvB (tTest (tOp (rNeD K) (tVar i) (tLst tNil))) σ H (!gs.isEmpty) := by
  have hr : Rp K SN H (.ref p) (.lst gs) := .lst ⟨hp, id⟩ r
  have := eb_T (ev_op memN (ev_var (σ := σ) (i := i) memN hσ hr) (ev_lst memN ea_nil (Nat.zero_le _)) (r_neD (show plainD (.lst gs) = true from hg) rfl (by show depA gs + 1 ≤ 64; rw [hd]; decide) (by decide)))
  rwa [eqD_nil] at this
/-- word > found[-1] -/
theorem fnd_gt {i j : Nat} {gs : List Str} {g x : Str} (hσ : σ[i]? = some (some (.ref p))) (hσ2 : σ[j]? = some (some (.str x))) (hp : H p = some (.lst (gs.map V.str))) (hl : gs.getLast? = some g) : EvB (tTest (tOp rGtS (tVar j) (tOp (rIx K) (tVar i) (tUn rNeg (tC (.int 1)))))) σ H (decide (g.cps.toList < x.cps.toList)) := by
  have hr : Rp K SN H (.ref p) (.lst (gs.map D.str)) := .lst ⟨hp, id⟩ (rpA_strs gs)
  exact eb_T (ev_op (K := K) (S := SN) memN (ev_var (i := j) memN hσ2 (.str x)) (ev_op memN (ev_var (i := i) memN hσ hr) (ev_neg ev_int) (r_ixLast (d := .str g) (by rw [List.getLast?_map, hl]; rfl))) r_gtS)
/-- [word for word in words if found == [] or word > found[-1]] -/
theorem ev_next {i j : Nat} {te : TE} {d : D} {ws gs : List Str} (m : Mem S H) (hp : H p = some (.lst (gs.map V.str))) (he : EvD K S te σ H d) (hq : SeqD d (ws.map D.str)) (hwl : ws.length ≤ 1000) (hg : ∀ g ∈ gs, PyData.strOk g = true)
    (h1 : ∀ x : V, ((wipe σ [i]).set i (some x))[j]? = some (some (.ref p))) (h2 : ∀ x : V, ((wipe σ [i]).set i (some x))[i]? = some (some x)) (hwp : ∀ x : V, wipe ((wipe σ [i]).set i (some x)) [i] = wipe σ [i]) :
    EvD K S (tLc (iSeq K te) (gName i) (tOr (tTest (tOp (rEqD K) (tVar j) (tLst tNil))) (tTest (tOp rGtS (tVar i) (tOp (rIx K) (tVar j) (tUn rNeg (tC (.int 1))))))) (tVar i) [i]) σ H (.lst ((ws.filter (okw gs)).map D.str)) := by
  have il : items d = ws.map D.str := items_Q hq
  have h := ev_filter (i := i) (te := tVar i) (p := fun d => okw gs (unS d)) (f := fun d => d) m (ei_seq m he (walks_Q hq)) (by rw [il, List.length_map]; omega) (tt := tOr (tTest (tOp (rEqD K) (tVar j) (tLst tNil))) (tTest (tOp rGtS (tVar i) (tOp (rIx K) (tVar j) (tUn rNeg (tC (.int 1))))))) fun S' H' m' up ex x e he' rx => by
    rw [il] at he'
    obtain ⟨w, hw, rfl⟩ := List.mem_map.mp he'
    cases rx
    have hp' := ex _ _ hp
    refine ⟨hwp _, ?_, fun _ => ev_var m' (h2 _) (.str w)⟩
    have b0 := fnd_eq (K := K) (h1 (.str w)) hp' (rpA_strs gs) (plainA_strs hg) (depA_flat (fun _ => rfl) gs)
    show EvB _ _ _ (okw gs w)
    unfold okw
    cases hl : gs.getLast? with
    | none =>
      have hn : gs = [] := List.getLast?_eq_none_iff.mp hl
      subst hn
      exact (eb_or (b := true) b0 fun z => by cases z).is rfl
    | some g =>
      refine (eb_or b0 fun _ => fnd_gt (K := K) (h1 (.str w)) (h2 (.str w)) hp' hl).is ?_
      have hne : gs ≠ [] := fun z => by rw [z] at hl; cases hl
      rw [show (gs.map D.str).isEmpty = false by cases gs with
        | nil => exact absurd rfl hne
        | cons a b => rfl, Bool.false_or]
  rw [il] at h
  refine h.is ?_
  rw [List.map_id', List.filter_map]
  rfl
/-- a list of words that is being read -/
structure LotSt (K : PySem.W.Frag) (A : Ads) (S : Addr → Prop) (H0 : Hp) (q p : Addr) (ls : List (List Str)) (l a : Nat) (vs : List V) (H : Hp) : Prop where
  ex : Ex1 q H0 H
  mem : Mem (plus S p) H
  up : Up K S H0 (plus S p) H
  scan : ScanAt K A (plus S p) H q ls l a
  lst : H p = some (.lst vs)
theorem LotSt.grow {H0 : Hp} {vs : List V} (L : LotSt K A S H0 q p ls l a vs H) (hp0 : H0 p = none) (ne : p ≠ q) (e : Ex H H') : LotSt K A S H0 q p ls l a vs H' :=
  ⟨L.ex.trans (Ex.ex1 e), L.mem.ex e, L.up.trans (Up.ex L.mem e), L.scan.ex L.mem e, e _ _ L.lst⟩
theorem LotSt.put {H0 : Hp} {vs : List V} {a' : Nat} {v : V} (L : LotSt K A S H0 q p ls l a vs H) (hp0 : H0 p = none) (ne : p ≠ q) (x : Ex1 q H H') (m : Mem (plus S p) H') (s : ScanAt K A (plus S p) H' q ls l a') :
    LotSt K A S H0 q p ls l a' (vs ++ [v]) (upd H' p (.lst (vs ++ [v]))) := by
  have put : ExS (plus S p) H' (upd H' p (.lst (vs ++ [v]))) := ExS.put m (.inr rfl)
  have u1 : Up K (plus S p) H (plus S p) H' := Up.exS (Ex1.exS L.mem L.scan.1 x s.there)
  refine ⟨fun b o nb hb => ?_, put.mem, (L.up.trans u1).trans (Up.exS put), ?_, upd_same⟩
  · have nbp : b ≠ p := fun z => by rw [z, hp0] at hb; cases hb
    rw [upd_ne nbp]
    exact (L.ex.trans x) b o nb hb
  · obtain ⟨sq, dx, vl, h1, h2⟩ := s
    exact ⟨sq, dx, vl, by rw [upd_ne (Ne.symm ne)]; exact h1, h2.mono put⟩
theorem LotSt.new {vs : List V} (m : Mem S H) (hs : ScanAt K A S H q ls l a) (hp : H p = none) : LotSt K A S H q p ls l a [] (upd H p (.lst [])) := by
  have eN : Ex H (upd H p (.lst [])) := Evl.Ex.new hp
  have m2 : Mem (plus S p) (upd H p (.lst [])) := fun b s => by
    rcases s with s | s
    · obtain ⟨o, ho⟩ := m b s
      exact ⟨o, eN _ _ ho⟩
    · exact ⟨_, by rw [s]; exact upd_same⟩
  have up1 : Up K S H (plus S p) (upd H p (.lst [])) := fun v d r => (r.plus hp).mono ⟨fun a o _ h => eN _ _ h, m2⟩
  obtain ⟨sq, dx, vl, h1, h2⟩ := hs
  exact ⟨Ex.ex1 eN, m2, up1, ⟨.inl sq, dx, vl, eN _ _ h1, up1 _ _ h2⟩, upd_same⟩
/-- what is given at the end -/
theorem LotSt.give {H0 : Hp} {vs : List V} {ds : List D} {Q : VK} (L : LotSt K A S H0 q p ls l a vs H) (hS : S q) (m0 : Mem S H0) (hp0 : H0 p = none) (r : RpA K (plus S p) H vs ds) (k : Gv K A S H0 q ls l a (.lst ds) Q) : Q (.ref p) H := by
  obtain ⟨sq, dx, vl, h1, h2⟩ := L.scan
  exact k (.ref p) H L.ex (fun b s => L.mem b (.inl s)) ⟨hS, dx, vl, h1, h2.less fun _ z => .inl z⟩ (.lst ⟨L.lst, m0.new hp0⟩ (r.less fun _ z => .inl z))
theorem lot_turn {i j : Nat} {te : TE} {d : D} {ws gs : List Str} {n a0 : Nat} {H0 : Hp} {w : Str} {D0 : Ends} (G : LinesG ls) (L : LotSt K A S H0 q p ls l (a0 + n) ((gs.take n).map V.str) H) (hp0 : H0 p = none) (ne : p ≠ q) (hσ0 : σ[0]? = some (some (.ref q))) (hσ : σ[j]? = some (some (.ref p))) (hl : l < ls.length)
    (hw : (ls.getD l [])[a0 + n]? = some w) (hg : gs[n]? = some w) (ok : WLotOk ws gs) (hso : ∀ g ∈ ws, PyData.strOk g = true) (hwl : ws.length ≤ 1000) (he : EvD K (plus S p) te σ H d) (hq : SeqD d (ws.map D.str))
    (h1 : ∀ x : V, ((wipe σ [i]).set i (some x))[j]? = some (some (.ref p))) (h2 : ∀ x : V, ((wipe σ [i]).set i (some x))[i]? = some (some x)) (hwp : ∀ x : V, wipe ((wipe σ [i]).set i (some x)) [i] = wipe σ [i])
    (k : ∀ H', LotSt K A S H0 q p ls l (a0 + (n + 1)) ((gs.take (n + 1)).map V.str) H' → D0.nx σ H') :
    tDrop (tBM K "list" rAppend (tVar j) (tCons (tMeth A.cScan "take_of" (spTakeOf K A) [] E (tVar 0) (tCons (tLc (iSeq K te) (gName i) (tOr (tTest (tOp (rEqD K) (tVar j) (tLst tNil))) (tTest (tOp rGtS (tVar i) (tOp (rIx K) (tVar j) (tUn rNeg (tC (.int 1))))))) (tVar i) [i]) tNil)) tNil)) D0 σ H := by
  refine ts_append hσ L.lst (ok_takeof (w := w) (ws := ws.filter (okw (gs.take n))) G L.mem hσ0 L.scan hl hw (ev_next L.mem L.lst he hq hwl (fun g hgm => hso g (ok.mem g (List.mem_of_mem_take hgm))) h1 h2 hwp) (.inl rfl) (okw_next ok hg) fun v H1 x1 m1 s1 r1 => ?_)
  cases r1
  refine ⟨p, (gs.take n).map V.str, .str w, rfl, rfl, x1 _ _ ne L.lst, ?_, ?_⟩
  · rw [List.length_map, List.length_take, sizeLine_eq]
    have := ok.len
    omega
  · have e : (gs.take (n + 1)).map V.str = (gs.take n).map V.str ++ [V.str w] := by
      rw [List.take_add_one, hg, List.map_append]; rfl
    have := L.put hp0 ne x1 m1 s1 (v := .str w)
    refine k _ ?_
    rw [e]
    exact this
/-! ### taken_lot -/
def spTLot (K : PySem.W.Frag) (A : Ads) : Sp := fun vs H Q _ => ∃ S q ls l a vw d, ∃ ws gs : List Str, vs = [.ref q, vw] ∧ Mem S H ∧ ScanAt K A S H q ls l a ∧ LinesG ls ∧ l < ls.length ∧ (ls.getD l []).drop a = gs ∧ a ≤ (ls.getD l []).length ∧ Rp K S H vw d ∧ SeqD d (ws.map D.str) ∧ WLotOk ws gs ∧ (∀ g ∈ ws, PyData.strOk g = true) ∧ ws.length ≤ 1000 ∧
  Gv K A S H q ls l (ls.getD l []).length (.lst (gs.map D.str)) Q
theorem drop_get {ws gs : List Str} {a n : Nat} (h : ws.drop a = gs) : ws[a + n]? = gs[n]? := by rw [← h, List.getElem?_drop]
theorem pr_tlot (vs : List V) (H : Hp) (Q : VK) (E : XK) (hh : spTLot K A vs H Q E) : t_taken_lot K A E (spAhead K A) (spTakeOf K A) { nx := fun _ H' => Q .non H', rt := Q } (start ["scan", "words", "found", "word"] vs) H := by
  obtain ⟨S, q, ls, l, a, vw, d, ws, gs, rfl, m, hs, G, hl, hg, hal, r, hq, ok, hso, hwl, k⟩ := hh
  show t_taken_lot K A E (spAhead K A) (spTakeOf K A) { nx := fun _ H' => Q .non H', rt := Q } [some (.ref q), some vw, none, none] H
  have glen : gs.length = (ls.getD l []).length - a := by rw [← hg, List.length_drop]
  refine ⟨Nat.zero_le _, fun p hp => ?_⟩
  have ne : p ≠ q := fun z => by
    obtain ⟨o, ho⟩ := hs.there
    rw [← z, hp] at ho; cases ho
  have L0 := LotSt.new (vs := []) m hs hp
  refine ts_whileseq (n0 := gs.length) (fun k' σ' H' => ∃ n, k' = gs.length - n ∧ n ≤ gs.length ∧ σ' = [some (.ref q), some vw, some (.ref p), none] ∧ LotSt K A S H q p ls l (a + n) ((gs.take n).map V.str) H') ⟨0, by simp, Nat.zero_le _, rfl, by simpa using L0⟩ fun k' σ' H' hP => ?_
  obtain ⟨n, rfl, hn, rfl, L⟩ := hP
  have hah := ok_ahead (i := 0) (σ := [some (.ref q), some vw, some (.ref p), none]) (a := a + n) G L.mem rfl L.scan hl (by omega)
  rw [drop_get hg] at hah
  have ht : EvB (tTest (tOp rNotN (tMeth A.cScan "ahead" (spAhead K A) [] E0 (tVar 0) tNil) (tC .non))) [some (.ref q), some vw, some (.ref p), none] H' (gs[n]?).isSome := (eb_T (ev_op L.mem hah ev_non r_notN)).is (by cases gs[n]? <;> rfl)
  refine ⟨_, ht, fun H2 e2 => ?_⟩
  have L2 := L.grow hp ne e2
  by_cases hlt : n < gs.length
  · obtain ⟨w, hw⟩ : ∃ w, gs[n]? = some w := ⟨_, List.getElem?_eq_getElem hlt⟩
    rw [hw, if_pos (show (some w).isSome = true from rfl)]
    refine lot_turn (i := 3) (j := 2) (te := tVar 1) G L2 hp ne rfl rfl hl (by rw [drop_get hg]; exact hw) hw ok hso hwl (ev_var (i := 1) L2.mem rfl (L2.up _ _ r)) hq (fun _ => rfl) (fun _ => rfl) (fun _ => rfl) fun H3 L3 => ⟨gs.length - (n + 1), by omega, n + 1, rfl, hlt, rfl, L3⟩
  · have e : n = gs.length := by omega
    subst e
    rw [List.getElem?_eq_none (Nat.le_refl _), if_neg (show ¬ (none : Option Str).isSome = true from Bool.false_ne_true)]
    rw [List.take_length, show a + gs.length = (ls.getD l []).length by omega] at L2
    exact ⟨.ref p, rfl, L2.give hs.1 m hp (rpA_strs gs) k⟩
/-! ### taken_asked -/
def spAsked (K : PySem.W.Frag) (A : Ads) : Sp := fun vs H Q _ => ∃ S q ls l, ∃ gs : List Str, vs = [.ref q] ∧ Mem S H ∧ ScanAt K A S H q ls l 0 ∧ LinesG ls ∧ l < ls.length ∧ ls.getD l [] = ("asked" : Str) :: gs ∧ WLotOk lBREAKS gs ∧ ("swept" : Str) ∈ gs ∧ Gv K A S H q ls (l + 1) 0 (.lst (gs.map D.str)) Q
theorem swept_max : ∀ x ∈ lBREAKS, ¬ ltS "swept" x := by
  intro x hx
  have : x = "full" ∨ x = "lost" ∨ x = "swept" := by simpa [lBREAKS] using hx
  unfold ltS
  rcases this with rfl | rfl | rfl <;> decide +kernel
theorem swept_at {gs : List Str} (ok : WLotOk lBREAKS gs) {n : Nat} (hn : n < gs.length) : ("swept" : Str) ∉ gs.take n := fun hm => by
  obtain ⟨i, hi, e⟩ := List.getElem_of_mem hm
  have hi2 : i < n := by rw [List.length_take] at hi; omega
  have hil : i < gs.length := by omega
  have e2 : gs[i] = "swept" := by rw [← e, List.getElem_take]
  have := List.pairwise_iff_getElem.mp ok.inc i n hil hn hi2
  rw [e2] at this
  exact swept_max _ (ok.mem _ (List.getElem_mem hn)) this
theorem pr_asked (Y : Tp A K) (vs : List V) (H : Hp) (Q : VK) (E : XK) (hh : spAsked K A vs H Q E) : t_taken_asked K A E (spTakeOf K A) (spEndLine K A) { nx := fun _ H' => Q .non H', rt := Q } (start ["scan", "found", "word"] vs) H := by
  obtain ⟨S, q, ls, l, gs, rfl, m, hs, G, hl, hg, ok, hsw, k⟩ := hh
  show t_taken_asked K A E (spTakeOf K A) (spEndLine K A) { nx := fun _ H' => Q .non H', rt := Q } [some (.ref q), none, none] H
  refine td_seq (ok_takeof (i := 0) (w := "asked") (ws := ["asked"]) G m rfl hs hl (by rw [hg]; rfl) (ev_one m ev_str) (.inr rfl) (List.mem_singleton.mpr rfl) fun _ H1 x1 m1 s1 _ => ?_)
  refine ⟨Nat.zero_le _, fun p hp => ?_⟩
  have ne : p ≠ q := fun z => by
    obtain ⟨o, ho⟩ := s1.there
    rw [← z, hp] at ho; cases ho
  have L0 := LotSt.new (vs := []) m1 s1 hp
  have so : ∀ g ∈ lBREAKS, PyData.strOk g = true := by decide +kernel
  refine ts_whileseq (n0 := gs.length) (fun k' σ' H' => ∃ n, k' = gs.length - n ∧ n ≤ gs.length ∧ σ' = [some (.ref q), some (.ref p), none] ∧ LotSt K A S H1 q p ls l (1 + n) ((gs.take n).map V.str) H') ⟨0, by simp, Nat.zero_le _, rfl, by simpa using L0⟩ fun k' σ' H' hP => ?_
  obtain ⟨n, rfl, hn, rfl, L⟩ := hP
  have hr : Rp K SN H' (.ref p) (.lst ((gs.take n).map D.str)) := .lst ⟨L.lst, id⟩ (rpA_strs _)
  have ht : EvB (tTest (tOp (rIn K true) (tC (.str "swept")) (tVar 1))) [some (.ref q), some (.ref p), none] H' (!decide (("swept" : Str) ∈ gs.take n)) := eb_T (ev_op memN ev_str (ev_var (i := 1) memN rfl hr) (r_inQ (neg := true) (.inl rfl)))
  refine ⟨_, ht, fun H2 e2 => ?_⟩
  have L2 := L.grow hp ne e2
  by_cases hlt : n < gs.length
  · obtain ⟨w, hw⟩ : ∃ w, gs[n]? = some w := ⟨_, List.getElem?_eq_getElem hlt⟩
    rw [decide_eq_false (swept_at ok hlt), if_pos (show (!false) = true from rfl)]
    refine lot_turn (i := 2) (j := 1) (te := tC (.ref A.tBREAKS)) (ws := lBREAKS) G L2 hp ne rfl rfl hl (by rw [hg, Nat.add_comm]; exact hw) hw ok so (by decide) (ev_T Y.breaks) seq_T (fun _ => rfl) (fun _ => rfl) (fun _ => rfl) fun H3 L3 => ⟨gs.length - (n + 1), by omega, n + 1, rfl, hlt, rfl, L3⟩
  · have e : n = gs.length := by omega
    subst e
    rw [List.take_length] at L2
    rw [List.take_length, decide_eq_true hsw, if_neg (show ¬ (!true) = true by decide)]
    have hll : 1 + gs.length = (ls.getD l []).length := by rw [hg, List.length_cons, Nat.add_comm]
    refine td_seq (ok_endline (i := 0) G L2.mem rfl L2.scan hl hll fun _ H3 x3 m3 s3 _ => ?_)
    have u3 : Up K (plus S p) H2 (plus S p) H3 := Up.exS (Ex1.exS L2.mem L2.scan.1 x3 s3.there)
    have L3 : LotSt K A S H1 q p ls (l + 1) 0 (gs.map V.str) H3 := ⟨L2.ex.trans x3, m3, L2.up.trans u3, s3, x3 _ _ ne L2.lst⟩
    exact ⟨.ref p, rfl, L3.give s1.1 m1 hp (rpA_strs gs) (k.mono x1)⟩
end
end Nv
set_option Elab.async false
set_option linter.all false
set_option maxRecDepth 100000
set_option maxHeartbeats 4000000
/-! Promises of the readers: kinds. -/
namespace Nv
open PySem PySem.Spec PyProof.Rows L2 StX NvZ
def linkR (l : List Int) : D := .lst (l.map D.int)
def kindR (k : Kind) : D := .tup [.int k.1, .lst (k.2.map linkR)]
def fromN (gs : List Int) (n : Nat) : Int := match (gs.take n).getLast? with
  | none => 0
  | some g => g + 1
theorem from_le {lo hi : Int} {gs : List Int} {n : Nat} {i : Int} (ok : LotOk lo hi gs) (h0 : lo = 0) (hi' : gs[n]? = some i) : fromN gs n ≤ i := by
  unfold fromN
  have hlt : n < gs.length := (List.getElem?_eq_some_iff.mp hi').1
  cases hg : (gs.take n).getLast? with
  | none =>
    have := (ok.rng i (List.mem_of_getElem? hi')).1
    show 0 ≤ i
    omega
  | some g =>
    have hn : 0 < n := by
      rcases Nat.eq_zero_or_pos n with z | z
      · rw [z] at hg; cases hg
      · exact z
    rw [List.getLast?_eq_getElem?, List.length_take, Nat.min_eq_left (by omega), List.getElem?_take_of_lt (by omega)] at hg
    obtain ⟨h1, e1⟩ := List.getElem?_eq_some_iff.mp hg
    obtain ⟨h2, e2⟩ := List.getElem?_eq_some_iff.mp hi'
    have := List.pairwise_iff_getElem.mp ok.inc _ _ h1 h2 (by omega)
    rw [e1, e2] at this
    show g + 1 ≤ i
    omega
section
variable {K : PySem.W.Frag} {A : Ads} {S S' : Addr → Prop} {σ : L2.St} {H H' H1 : Hp} {E : XK} {q p : Addr} {ls : List (List Str)} {l a : Nat}
theorem ev_swapI {te : TE} {i : Int} (h : EvD K S te σ H (.int i)) : EvD K S' te σ H (.int i) := fun H1 e Q k => h H1 e Q fun v H2 e2 r2 => by
  cases r2
  exact k _ H2 e2 (.int i)
theorem LotSt.out {H0 : Hp} {vs : List V} {ds : List D} (L : LotSt K A S H0 q p ls l a vs H) (hS : S q) (m0 : Mem S H0) (hp0 : H0 p = none) (r : RpA K (plus S p) H vs ds) : Mem S H ∧ ScanAt K A S H q ls l a ∧ Rp K S H (.ref p) (.lst ds) := by
  obtain ⟨sq, dx, vl, h1, h2⟩ := L.scan
  exact ⟨fun b s => L.mem b (.inl s), ⟨hS, dx, vl, h1, h2.less fun _ z => .inl z⟩, .lst ⟨L.lst, m0.new hp0⟩ (r.less fun _ z => .inl z)⟩
/-! ### taken_link -/
def spTLink (K : PySem.W.Frag) (A : Ads) : Sp := fun vs H Q _ => ∃ S q ls l a, ∃ many : Int, ∃ gs : List Int, vs = [.ref q, .int many] ∧ Mem S H ∧ ScanAt K A S H q ls l a ∧ LinesG ls ∧ l < ls.length ∧ LotOk 0 (many - 1) gs ∧ many ≤ 3 ∧ (∀ n i, gs[n]? = some i → (ls.getD l [])[a + n]? = some (istr i)) ∧
  a + gs.length ≤ (ls.getD l []).length ∧ (∀ w : Str, (ls.getD l [])[a + gs.length]? = some w → w = ":") ∧ Gv K A S H q ls l (a + gs.length) (linkR gs) Q
theorem ev_figure {te t2 t3 : TE} {o : Option Str} {lo hi : Int} (m : Mem S H) (h : EvD K S te σ H (wD o)) (h2 : EvD K S t2 σ H (.int lo)) (h3 : EvD K S t3 σ H (.int hi)) (hw : ∀ w, o = some w → wdB w = true) : EvB (tB (tCall (spFigure K) [] E0 (tCons te (tCons t2 (tCons t3 tNil))))) σ H (figD (wD o) lo hi) :=
  eb_B (ev_pure m (ea_cons m h (ea_cons m h2 (ea_cons m h3 ea_nil))) rfl ⟨_, _, _, rfl, by cases o with
    | none => rfl
    | some w => exact hw w rfl, rfl, rfl⟩)
theorem line_wd (G : LinesG ls) (hl : l < ls.length) {n : Nat} : ∀ w, (ls.getD l [])[n]? = some w → wdB w = true := fun w hw => (G.each _ (getD_mem hl)).2 w (List.mem_of_getElem? hw)
theorem pr_tlink (vs : List V) (H : Hp) (Q : VK) (E : XK) (hh : spTLink K A vs H Q E) : t_taken_link K A E (spFigure K) (spAhead K A) (spTakeNum K A) { nx := fun _ H' => Q .non H', rt := Q } (start ["scan", "many", "found"] vs) H := by
  obtain ⟨S, q, ls, l, a, many, gs, rfl, m, hs, G, hl, ok, hm, hg, hal, hend, k⟩ := hh
  show t_taken_link K A E (spFigure K) (spAhead K A) (spTakeNum K A) { nx := fun _ H' => Q .non H', rt := Q } [some (.ref q), some (.int many), none] H
  refine ⟨Nat.zero_le _, fun p hp => ?_⟩
  have ne : p ≠ q := fun z => by
    obtain ⟨o, ho⟩ := hs.there
    rw [← z, hp] at ho; cases ho
  have L0 := LotSt.new (vs := []) m hs hp
  refine ts_whileseq (n0 := gs.length) (fun k' σ' H' => ∃ n, k' = gs.length - n ∧ n ≤ gs.length ∧ σ' = [some (.ref q), some (.int many), some (.ref p)] ∧ LotSt K A S H q p ls l (a + n) ((gs.take n).map V.int) H') ⟨0, by simp, Nat.zero_le _, rfl, by simpa using L0⟩ fun k' σ' H' hP => ?_
  obtain ⟨n, rfl, hn, rfl, L⟩ := hP
  have hah := ok_ahead (i := 0) (σ := [some (.ref q), some (.int many), some (.ref p)]) (a := a + n) G L.mem rfl L.scan hl (by omega)
  have hi : ∀ {HH : Hp}, Mem (plus S p) HH → EvD K (plus S p) (tOp rSubI (tVar 1) (tC (.int 1))) [some (.ref q), some (.int many), some (.ref p)] HH (.int (many - 1)) := fun mm => ev_op mm (ev_var (i := 1) mm rfl (.int many)) ev_int r_sub
  have ht := ev_figure (lo := 0) (hi := many - 1) L.mem hah ev_int (hi L.mem) (line_wd G hl)
  refine ⟨_, ht, fun H2 e2 => ?_⟩
  have L2 := L.grow hp ne e2
  by_cases hlt : n < gs.length
  · obtain ⟨i, hi'⟩ : ∃ i, gs[n]? = some i := ⟨_, List.getElem?_eq_getElem hlt⟩
    obtain ⟨r0, r1⟩ := ok.rng i (List.mem_of_getElem? hi')
    have hw := hg n i hi'
    rw [hw]
    rw [if_pos (show figD (wD (some (istr i))) 0 (many - 1) = true from (fig12 r0 (by omega) r0 r1).1)]
    have hfrom : EvD K (plus S p) (tIf (tTest (tOp (rNeD K) (tVar 2) (tLst tNil))) (tOp rAddI (tOp (rIx K) (tVar 2) (tUn rNeg (tC (.int 1)))) (tC (.int 1))) (tC (.int 0))) [some (.ref q), some (.int many), some (.ref p)] H2 (.int (fromN gs n)) := by
      have b0 := fnd_ne (K := K) (σ := [some (.ref q), some (.int many), some (.ref p)]) (i := 2) rfl L2.lst (rpA_ints (gs.take n)) (plainA_ints _) (depA_flat (fun _ => rfl) _)
      have hr : Rp K SN H2 (.ref p) (.lst ((gs.take n).map D.int)) := .lst ⟨L2.lst, id⟩ (rpA_ints _)
      unfold fromN
      cases hl' : (gs.take n).getLast? with
      | none =>
        have hn0 : gs.take n = [] := List.getLast?_eq_none_iff.mp hl'
        rw [hn0] at b0
        exact ev_if (b := false) b0 (fun z => by cases z) fun _ => ev_int
      | some g =>
        have hne : gs.take n ≠ [] := fun z => by rw [z] at hl'; cases hl'
        have b1 := b0.is (show (!((gs.take n).map D.int).isEmpty) = true by
          cases hc : gs.take n with
          | nil => exact absurd hc hne
          | cons x y => rfl)
        exact ev_if b1 (fun _ => ev_swapI (ev_op memN (ev_op memN (ev_var (i := 2) memN rfl hr) (ev_neg ev_int) (r_ixLast (d := .int g) (by rw [List.getLast?_map, hl']; rfl))) ev_int r_add)) fun z => by cases z
    refine ts_append rfl L2.lst (ok_takenum (i := 0) (n := i) G L2.mem rfl L2.scan hl hw (ea_cons L2.mem hfrom (ea_cons L2.mem (hi L2.mem) ea_nil)) r0 (by omega) (from_le ok rfl hi') r1 fun v H3 x3 m3 s3 r3 => ?_)
    cases r3
    refine ⟨p, (gs.take n).map V.int, .int i, rfl, rfl, x3 _ _ ne L2.lst, ?_, ?_⟩
    · rw [List.length_map, List.length_take, sizeLine_eq]
      have := ok.len
      omega
    · have e : (gs.take (n + 1)).map V.int = (gs.take n).map V.int ++ [V.int i] := by
        rw [List.take_add_one, hi', List.map_append]; rfl
      have L3 := L2.put hp ne x3 m3 s3 (v := .int i)
      refine ⟨gs.length - (n + 1), by omega, n + 1, rfl, hlt, rfl, ?_⟩
      rw [e]
      exact L3
  · have e : n = gs.length := by omega
    subst e
    have hno : figD (wD (ls.getD l [])[a + gs.length]?) 0 (many - 1) = false := by
      cases hw : (ls.getD l [])[a + gs.length]? with
      | none => rfl
      | some w =>
        rw [hend w hw]
        show figB ":" 0 (many - 1) = false
        unfold figB
        rw [if_pos (by decide +kernel)]
    rw [hno, if_neg Bool.false_ne_true]
    rw [List.take_length] at L2
    exact ⟨.ref p, rfl, L2.give hs.1 m hp (rpA_ints gs) k⟩
/-! ### taken_kind -/
def posK (k : Kind) (n : Nat) : Nat := 2 + ((k.2.take n).map linkW).flatten.length
def restK (k : Kind) (n : Nat) : List Str := ((k.2.drop n).map linkW).flatten
theorem kindW_split (k : Kind) (n : Nat) : (kindW k).drop (posK k n) = restK k n := by
  have e : k.2 = k.2.take n ++ k.2.drop n := (List.take_append_drop n k.2).symm
  have e2 : kindW k = ("kind" : Str) :: istr k.1 :: (((k.2.take n).map linkW).flatten ++ restK k n) := by
    unfold kindW restK
    conv => lhs; rw [e]
    rw [List.map_append, List.flatten_append]
  rw [e2, posK, Nat.add_comm]
  show List.drop (((k.2.take n).map linkW).flatten.length) (((k.2.take n).map linkW).flatten ++ restK k n) = restK k n
  rw [List.drop_left]
theorem kindW_get (k : Kind) (n i : Nat) : (kindW k)[posK k n + i]? = (restK k n)[i]? := by rw [← kindW_split k n, List.getElem?_drop]
theorem restK_cons {k : Kind} {n : Nat} {g : List Int} (h : k.2[n]? = some g) : restK k n = (":" : Str) :: (g.map istr ++ restK k (n + 1)) := by
  obtain ⟨hlt, e⟩ := List.getElem?_eq_some_iff.mp h
  unfold restK
  rw [List.drop_eq_getElem_cons hlt, e]
  rfl
theorem restK_end (k : Kind) : restK k k.2.length = [] := by
  unfold restK
  rw [List.drop_length]; rfl
theorem posK_succ {k : Kind} {n : Nat} {g : List Int} (h : k.2[n]? = some g) : posK k (n + 1) = posK k n + 1 + g.length := by
  unfold posK
  rw [List.take_add_one, h, List.map_append, List.flatten_append, List.length_append]
  have : ((Option.toList (some g)).map linkW).flatten.length = 1 + g.length := by
    show ((":" : Str) :: g.map istr ++ []).length = _
    rw [List.append_nil, List.length_cons, List.length_map, Nat.add_comm]
  omega
theorem posK_end (k : Kind) : posK k k.2.length = (kindW k).length := by
  unfold posK kindW
  rw [List.take_length, List.length_cons, List.length_cons]
  omega
theorem posK_le (k : Kind) (n : Nat) : posK k n ≤ (kindW k).length := by
  rw [← posK_end]
  unfold posK
  rw [List.take_length]
  have e : k.2 = k.2.take n ++ k.2.drop n := (List.take_append_drop n k.2).symm
  have : ((k.2.map linkW).flatten).length = (((k.2.take n).map linkW).flatten).length + (((k.2.drop n).map linkW).flatten).length := by
    conv => lhs; rw [e]
    rw [List.map_append, List.flatten_append, List.length_append]
  omega
theorem restK_head {k : Kind} {n : Nat} : ∀ w : Str, (restK k n)[0]? = some w → w = ":" := fun w hw => by
  cases h : k.2[n]? with
  | none =>
    have hn : k.2.length ≤ n := List.getElem?_eq_none_iff.mp h
    unfold restK at hw
    rw [List.drop_eq_nil_of_le hn] at hw
    cases hw
  | some g =>
    rw [restK_cons h] at hw
    cases hw
    rfl
def spTKind (K : PySem.W.Frag) (A : Ads) : Sp := fun vs H Q _ => ∃ S q ls l, ∃ many : Int, ∃ k : Kind, vs = [.ref q, .int many] ∧ Mem S H ∧ ScanAt K A S H q ls l 0 ∧ LinesG ls ∧ l < ls.length ∧ ls.getD l [] = kindW k ∧ KindOk many k ∧ many ≤ 3 ∧ Gv K A S H q ls (l + 1) 0 (kindR k) Q
theorem pr_tkind (vs : List V) (H : Hp) (Q : VK) (E : XK) (hh : spTKind K A vs H Q E) : t_taken_kind K A E (spTakeOf K A) (spTakeNum K A) (spAhead K A) (spTLink K A) (spEndLine K A) { nx := fun _ H' => Q .non H', rt := Q } (start ["scan", "many", "size", "links"] vs) H := by
  obtain ⟨S, q, ls, l, many, kd, rfl, m, hs, G, hl, hg, ok, hm, k⟩ := hh
  show t_taken_kind K A E (spTakeOf K A) (spTakeNum K A) (spAhead K A) (spTLink K A) (spEndLine K A) { nx := fun _ H' => Q .non H', rt := Q } [some (.ref q), some (.int many), none, none] H
  refine td_seq (ok_takeof (i := 0) (w := "kind") (ws := ["kind"]) G m rfl hs hl (by rw [hg]; rfl) (ev_one m ev_str) (.inr rfl) (List.mem_singleton.mpr rfl) fun _ H1 x1 m1 s1 _ => ?_)
  refine ok_takenum (i := 0) (n := kd.1) G m1 rfl s1 hl (by rw [hg]; rfl) (ea_cons m1 ev_int (ea_cons m1 ev_int ea_nil)) (by have := ok.lo; omega) (by have := ok.hi; omega) ok.lo ok.hi fun v2 H2 x2 m2 s2 r2 => ?_
  cases r2
  refine ⟨Nat.zero_le _, fun p hp => ⟨_, _, rfl, ?_⟩⟩
  have ne : p ≠ q := fun z => by
    obtain ⟨o, ho⟩ := s2.there
    rw [← z, hp] at ho; cases ho
  have L0 := LotSt.new (vs := []) m2 s2 hp
  have lk := kind_links ok
  refine ts_whileseq (n0 := kd.2.length) (fun k' σ' H' => ∃ n vs, k' = kd.2.length - n ∧ n ≤ kd.2.length ∧ σ' = [some (.ref q), some (.int many), some (.int kd.1), some (.ref p)] ∧ LotSt K A S H2 q p ls l (posK kd n) vs H' ∧ RpA K (plus S p) H' vs ((kd.2.take n).map linkR)) ⟨0, [], by simp, Nat.zero_le _, rfl, by simpa [posK] using L0, by simp; exact .nil⟩ fun k' σ' H' hP => ?_
  obtain ⟨n, us, rfl, hn, rfl, L, rA⟩ := hP
  have hah := ok_ahead (i := 0) (σ := [some (.ref q), some (.int many), some (.int kd.1), some (.ref p)]) (a := posK kd n) G L.mem rfl L.scan hl (by rw [hg]; exact posK_le kd n)
  have hget : (ls.getD l [])[posK kd n]? = (restK kd n)[0]? := by rw [hg]; exact kindW_get kd n 0
  rw [hget] at hah
  have t1 : EvB (tTest (tOp rNotN (tMeth A.cScan "ahead" (spAhead K A) [] E0 (tVar 0) tNil) (tC .non))) [some (.ref q), some (.int many), some (.int kd.1), some (.ref p)] H' ((restK kd n)[0]?).isSome := (eb_T (ev_op L.mem hah ev_non r_notN)).is (by cases (restK kd n)[0]? <;> rfl)
  have t2 : EvB (tTest (tOp rLtI (tCB (rLenV K) (tCons (tVar 3) tNil)) (tCB rMin2 (tCons (tVar 2) (tCons (tC (.int 2)) tNil))))) [some (.ref q), some (.int many), some (.int kd.1), some (.ref p)] H' (decide ((n : Int) < least2 kd.1)) := by
    have hln := ev_lenM (i := 3) (σ := [some (.ref q), some (.int many), some (.int kd.1), some (.ref p)]) L.mem rfl L.lst rA
    refine (eb_T (ev_op L.mem hln (ev_cb (ea_cons L.mem (ev_var (i := 2) L.mem rfl (.int kd.1)) (ea_cons L.mem ev_int ea_nil)) ra_min) r_lt)).is ?_
    rw [List.length_map, List.length_take, Nat.min_eq_left hn]
    rfl
  refine ⟨_, eb_and t1 fun _ => t2, fun H3 e3 => ?_⟩
  have L3 := L.grow hp ne e3
  have rA3 := rA.mono (.of L.mem e3)
  by_cases hlt : n < kd.2.length
  · obtain ⟨g, hg'⟩ : ∃ g, kd.2[n]? = some g := ⟨_, List.getElem?_eq_getElem hlt⟩
    have hrc := restK_cons hg'
    have hltI : (n : Int) < least2 kd.1 := by have := ok.len; omega
    rw [hrc, decide_eq_true hltI, if_pos (by rfl)]
    have okg := ok.each g (List.mem_of_getElem? hg')
    refine td_seq (ok_takeof (i := 0) (w := ":") (ws := [":"]) G L3.mem rfl L3.scan hl (by rw [hget, hrc]; rfl) (ev_one L3.mem ev_str) (.inr rfl) (List.mem_singleton.mpr rfl) fun _ H4 x4 m4 s4 _ => ?_)
    have u4 : Up K (plus S p) H3 (plus S p) H4 := Up.exS (Ex1.exS L3.mem L3.scan.1 x4 s4.there)
    have hline : ∀ i, (ls.getD l [])[posK kd n + 1 + i]? = (g.map istr ++ restK kd (n + 1))[i]? := fun i => by
      rw [hg, Nat.add_assoc, kindW_get kd n (1 + i), hrc, Nat.add_comm 1 i]
      rfl
    refine ts_append rfl (x4 _ _ ne L3.lst) ⟨_, rfl, _, rfl, plus S p, q, ls, l, posK kd n + 1, many, g, rfl, m4, s4, G, hl, okg, hm, fun i z hz => ?_, ?_, fun w hw => ?_, fun v H5 x5 m5 s5 r5 => ?_⟩
    · have hil := (List.getElem?_eq_some_iff.mp hz).1
      rw [hline, List.getElem?_append_left (by rw [List.length_map]; exact hil), List.getElem?_map, hz]; rfl
    · have h1 := posK_succ hg'
      have h2 := posK_le kd (n + 1)
      rw [hg]
      omega
    · rw [hline, List.getElem?_append_right (by rw [List.length_map]; exact Nat.le_refl _), List.length_map, Nat.sub_self] at hw
      exact restK_head w hw
    · have u5 : Up K (plus S p) H4 (plus S p) H5 := Up.exS (Ex1.exS m4 s4.1 x5 s5.there)
      refine ⟨p, us, v, rfl, rfl, x5 _ _ ne (x4 _ _ ne L3.lst), ?_, ?_⟩
      · rw [rA3.length, List.length_map, List.length_take, sizeLine_eq]; omega
      · have hpos := posK_succ hg'
        rw [← hpos] at s5
        have L5 := L3.put hp ne (x4.trans x5) m5 s5 (v := v)
        have put : ExS (plus S p) H5 (upd H5 p (.lst (us ++ [v]))) := ExS.put m5 (.inr rfl)
        refine ⟨kd.2.length - (n + 1), by omega, n + 1, us ++ [v], rfl, hlt, rfl, L5, ?_⟩
        have e : (kd.2.take (n + 1)).map linkR = (kd.2.take n).map linkR ++ [linkR g] := by
          rw [List.take_add_one, hg', List.map_append]; rfl
        rw [e]
        exact ((u5.arr (u4.arr rA3)).app (.cons r5 .nil)).mono put
  · have e : n = kd.2.length := by omega
    subst e
    rw [restK_end, if_neg (show ¬ ((([] : List Str)[0]?).isSome && _) = true from Bool.false_ne_true)]
    rw [List.take_length] at rA3
    refine td_seq (ok_endline (i := 0) G L3.mem rfl L3.scan hl (by rw [hg]; exact posK_end kd) fun _ H4 x4 m4 s4 _ => ?_)
    have u4 : Up K (plus S p) H3 (plus S p) H4 := Up.exS (Ex1.exS L3.mem L3.scan.1 x4 s4.there)
    have L4 : LotSt K A S H2 q p ls (l + 1) 0 us H4 := ⟨L3.ex.trans x4, m4, L3.up.trans u4, s4, x4 _ _ ne L3.lst⟩
    obtain ⟨mS, sS, rS⟩ := L4.out s2.1 m2 hp (u4.arr rA3)
    refine ts_ret (K := K) (S := S) (d := kindR kd) (ev_tup mS (ea_cons mS (ev_var (i := 2) mS rfl (.int kd.1)) (ea_cons mS (ev_var (i := 3) mS rfl rS) ea_nil)) (by show 2 ≤ _; decide)) fun v H5 e5 r5 => ?_
    exact k v H5 (((x1.trans x2).trans L4.ex).trans (Ex.ex1 e5)) (mS.ex e5) (sS.ex mS e5) r5
end
end Nv
set_option Elab.async false
set_option linter.all false
set_option maxRecDepth 100000
set_option maxHeartbeats 4000000
/-! Promises of the readers: kinds_ahead, taken_kinds, taken_collector. -/
namespace Nv
open PySem PySem.Spec PyProof.Rows L2 StX NvZ
section
variable {K : PySem.W.Frag} {A : Ads} {S S' : Addr → Prop} {σ : L2.St} {H H' H1 : Hp} {E : XK} {q p : Addr} {ls : List (List Str)} {l a : Nat}
/-! ### kinds_ahead -/
def isKL (ws : List Str) : Bool := decide (ws.take 1 = (["kind"] : List Str))
theorem eqD_one {ws : List Str} : eqD (.lst ((ws.take 1).map D.str)) (.lst ((["kind"] : List Str).map D.str)) = isKL ws := by
  unfold isKL
  cases ws with
  | nil => exact (decide_eq_false (fun z => by cases z)).symm
  | cons w t =>
    show (eqD (.str w) (.str "kind") && true) = _
    rw [eqD_str, Bool.and_true, decide_eq_decide]
    constructor
    · intro h; rw [h]; rfl
    · intro h; injection h
def spKAhead (K : PySem.W.Frag) (A : Ads) : Sp := fun vs H Q _ => ∃ S q ls l n, vs = [.ref q] ∧ Mem S H ∧ ScanAt K A S H q ls l 0 ∧ LinesG ls ∧ l + n < ls.length ∧ (∀ i, i < n → isKL (ls.getD (l + i) []) = true) ∧ isKL (ls.getD (l + n) []) = false ∧ ∀ H', Ex H H' → Q (.int (n : Nat)) H'
theorem pr_kahead (X : Sx A K) (vs : List V) (H : Hp) (Q : VK) (E : XK) (hh : spKAhead K A vs H Q E) : t_kinds_ahead K A E { nx := fun _ H' => Q .non H', rt := Q } (start ["scan", "found", "line"] vs) H := by
  obtain ⟨S, q, ls, l, n, rfl, m, hs, G, hl, hk, hn, k⟩ := hh
  show t_kinds_ahead K A E { nx := fun _ H' => Q .non H', rt := Q } [some (.ref q), none, none] H
  refine ts_set (K := K) (S := S) (d := .int 0) ev_int fun v H1 e1 r1 => ?_
  cases r1
  have m1 := m.ex e1
  have s1 := hs.ex m e1
  have hsl : EvD K S (tSl (rSlX K) (tFld K (tVar 0) "lines") (tPart (tFld K (tVar 0) "line")) tNoPart) [some (.ref q), some (.int 0), none] H1 (.lst ((ls.map lD).drop l)) := by
    have := ev_slX (hi := none) m1 (.inl rfl : SeqD (.lst (ls.map lD)) _) (ev_lines (i := 0) X m1 rfl s1) (eo_some (K := K) (S := S) (ev_line (i := 0) (σ := [some (.ref q), some (.int 0), none]) X m1 rfl s1)) eo_none
    rwa [cut_from (by rw [List.length_map]; omega)] at this
  have hi := ei_seq m1 hsl rfl
  refine td_seq' (ts_for hi fun H2 e2 => ⟨fun i σ' H' => i ≤ n ∧ Ex H2 H' ∧ ∃ x, σ' = [some (.ref q), some (.int (i : Nat)), x], ⟨Nat.zero_le _, Evl.Ex.refl _, none, rfl⟩, fun i σ' H' p => ⟨S, (m1.ex e2).ex p.2.1, Up.ex (m1.ex e2) p.2.1⟩, fun i d σ' H' hd p x H'' ex hx => ?_, fun σ' H' p => ?_⟩)
  · obtain ⟨hin, p1, y, rfl⟩ := p
    have m' := (m1.ex e2).ex p1
    have rx := hx S m' (Up.ex (m1.ex e2) p1)
    have m2 := m'.ex ex
    have hli : l + i < ls.length := by omega
    have hd' : ((ls.map lD).drop l)[i]? = some d := hd
    rw [List.getElem?_drop, List.getElem?_map, List.getElem?_eq_getElem hli] at hd'
    have hgd : ls.getD (l + i) [] = ls[l + i] := by simp [List.getD, hli]
    have hd2 : d = lD (ls.getD (l + i) []) := by
      rw [hgd]
      have := Option.some.inj hd'
      exact this.symm
    subst hd2
    show tSeq _ _ _ [some (.ref q), some (.int (i : Nat)), some x] H''
    have ht : EvB (tTest (tOp (rNeD K) (tSl (rSlX K) (tVar 2) tNoPart (tPart (tC (.int 1)))) (tLst (tCons (tC (.str "kind")) tNil)))) [some (.ref q), some (.int (i : Nat)), some x] H'' (!isKL (ls.getD (l + i) [])) := by
      have hsl2 := ev_slX (lo := none) m2 (.inl rfl : SeqD (lD (ls.getD (l + i) [])) _) (ev_var (i := 2) (σ := [some (.ref q), some (.int (i : Nat)), some x]) m2 rfl rx) eo_none (eo_some (K := K) (S := S) (ev_int (i := ((1 : Nat) : Int))))
      have hc : cutD ((ls.getD (l + i) []).map D.str) none (some ((1 : Nat) : Int)) = ((ls.getD (l + i) []).take 1).map D.str := by
        unfold cutD
        rw [HT.sIx_nat, HT.sIx_none, List.drop_zero, Nat.sub_zero, List.map_take]
        by_cases h : 1 ≤ ((ls.getD (l + i) []).map D.str).length
        · rw [Nat.min_eq_left h]
        · rw [Nat.min_eq_right (by omega), List.take_of_length_le (Nat.le_refl _), List.take_of_length_le (by omega)]
      rw [hc] at hsl2
      have hso : ∀ g ∈ (ls.getD (l + i) []).take 1, PyData.strOk g = true := fun g hg => by
        have hw := (G.each _ (getD_mem hli)).2 g (List.mem_of_mem_take hg)
        have hw' : (PyData.strOk g && decide (g.length ≤ 100) && (!digits g || (decide (g.length = 0) || (PySem.intText? g).isSome))) = true := hw
        rw [Bool.and_eq_true, Bool.and_eq_true] at hw'
        exact hw'.1.1
      have := eb_T (ev_op m2 hsl2 (ev_lst m2 (ea_cons m2 (ev_str (i := "kind")) ea_nil) (by show 1 ≤ _; decide)) (r_neD (d1 := .lst (((ls.getD (l + i) []).take 1).map D.str)) (d2 := .lst ((["kind"] : List Str).map D.str)) (plainA_strs hso) (by decide +kernel) (by show depA _ + 1 ≤ 64; rw [depA_flat (fun _ => rfl)]; decide) (by decide)))
      rwa [eqD_one] at this
    refine ts_ifseq ht fun H3 e3 => ?_
    by_cases hlt : i < n
    · rw [hk i hlt, if_neg (by decide)]
      refine ⟨.int (i : Nat), rfl, (i : Nat), 1, rfl, rfl, ?_⟩
      exact ⟨hlt, (p1.trans ex).trans e3, some x, rfl⟩
    · have hie : i = n := by omega
      subst hie
      rw [hn, if_pos (by decide)]
      exact ⟨_, rfl, k H3 (((e1.trans e2).trans p1).trans (ex.trans e3))⟩
  · have h1 := p.1
    have : ((ls.map lD).drop l).length ≤ n := h1
    rw [List.length_drop, List.length_map] at this
    omega
/-! ### taken_kinds -/
def spTKinds (K : PySem.W.Frag) (A : Ads) : Sp := fun vs H Q _ => ∃ S q ls l, ∃ ks : List Kind, vs = [.ref q] ∧ Mem S H ∧ ScanAt K A S H q ls l 0 ∧ LinesG ls ∧ l + ks.length < ls.length ∧ (∀ i k, ks[i]? = some k → ls.getD (l + i) [] = kindW k) ∧ isKL (ls.getD (l + ks.length) []) = false ∧ 1 ≤ ks.length ∧ ks.length ≤ 3 ∧ (∀ k ∈ ks, KindOk (ks.length : Nat) k) ∧
  Gv K A S H q ls (l + ks.length) 0 (.lst (ks.map kindR)) Q
theorem pr_tkinds (vs : List V) (H : Hp) (Q : VK) (E : XK) (hh : spTKinds K A vs H Q E) : t_taken_kinds K A E (spKAhead K A) (spTKind K A) { nx := fun _ H' => Q .non H', rt := Q } (start ["scan", "many", "found"] vs) H := by
  obtain ⟨S, q, ls, l, ks, rfl, m, hs, G, hl, hk, hn, k1, k3, ok, k⟩ := hh
  show t_taken_kinds K A E (spKAhead K A) (spTKind K A) { nx := fun _ H' => Q .non H', rt := Q } [some (.ref q), none, none] H
  have hka : EvD K S (tCall (spKAhead K A) [] E0 (tCons (tVar 0) tNil)) [some (.ref q), none, none] H (.int (ks.length : Nat)) := fun G' e Q kk => ⟨.ref q, rfl, S, q, ls, l, ks.length, rfl, m.ex e, hs.ex m e, G, hl, fun i hi => by
    rw [hk i ks[i] (List.getElem?_eq_getElem hi)]; exact decide_eq_true (show (kindW ks[i]).take 1 = (["kind"] : List Str) from rfl), hn, fun H2 e2 => kk _ H2 e2 (.int _)⟩
  have hmany : EvD K S (tCB rMin2 (tCons (tCB rMax2 (tCons (tC (.int 1)) (tCons (tCall (spKAhead K A) [] E0 (tCons (tVar 0) tNil)) tNil))) (tCons (tC (.int 3)) tNil))) [some (.ref q), none, none] H (.int (ks.length : Nat)) := by
    refine (ev_cb (ea_cons m (ev_cb (ea_cons m ev_int (ea_cons m hka ea_nil)) ra_max) (ea_cons m ev_int ea_nil)) ra_min).is ?_
    have h1 : (if ((ks.length : Nat) : Int) > 1 then ((ks.length : Nat) : Int) else 1) = ((ks.length : Nat) : Int) := by
      by_cases z : ((ks.length : Nat) : Int) > 1
      · rw [if_pos z]
      · rw [if_neg z]; omega
    rw [h1, if_neg (by omega)]
  refine hmany H (Evl.Ex.refl _) _ fun v1 H1 e1 r1 => ?_
  cases r1
  have m1 := m.ex e1
  have s1 := hs.ex m e1
  refine ⟨Nat.zero_le _, fun p hp => ⟨_, _, rfl, ?_⟩⟩
  have ne : p ≠ q := fun z => by
    obtain ⟨o, ho⟩ := s1.there
    rw [← z, hp] at ho; cases ho
  have L0 := LotSt.new (vs := []) m1 s1 hp
  refine ts_whileseq (n0 := ks.length) (fun k' σ' H' => ∃ n vs, k' = ks.length - n ∧ n ≤ ks.length ∧ σ' = [some (.ref q), some (.int (ks.length : Nat)), some (.ref p)] ∧ LotSt K A S H1 q p ls (l + n) 0 vs H' ∧ RpA K (plus S p) H' vs ((ks.take n).map kindR)) ⟨0, [], by simp, Nat.zero_le _, rfl, by simpa using L0, by simp; exact .nil⟩ fun k' σ' H' hP => ?_
  obtain ⟨n, us, rfl, hnn, rfl, L, rA⟩ := hP
  have t1 : EvB (tTest (tOp rLtI (tCB (rLenV K) (tCons (tVar 2) tNil)) (tVar 1))) [some (.ref q), some (.int (ks.length : Nat)), some (.ref p)] H' (decide ((n : Int) < (ks.length : Nat))) := by
    have hln := ev_lenM (i := 2) (σ := [some (.ref q), some (.int (ks.length : Nat)), some (.ref p)]) L.mem rfl L.lst rA
    refine (eb_T (ev_op L.mem hln (ev_var (i := 1) L.mem rfl (.int _)) r_lt)).is ?_
    rw [List.length_map, List.length_take, Nat.min_eq_left hnn]
  refine ⟨_, t1, fun H3 e3 => ?_⟩
  have L3 := L.grow hp ne e3
  have rA3 := rA.mono (.of L.mem e3)
  by_cases hlt : n < ks.length
  · obtain ⟨kd, hkd⟩ : ∃ kd, ks[n]? = some kd := ⟨_, List.getElem?_eq_getElem hlt⟩
    rw [decide_eq_true (show (n : Int) < (ks.length : Nat) by omega), if_pos rfl]
    refine ts_append rfl L3.lst ⟨_, rfl, _, rfl, plus S p, q, ls, l + n, _, kd, rfl, L3.mem, L3.scan, G, by omega, hk n kd hkd, ok kd (List.mem_of_getElem? hkd), by omega, fun v H5 x5 m5 s5 r5 => ?_⟩
    have u5 : Up K (plus S p) H3 (plus S p) H5 := Up.exS (Ex1.exS L3.mem L3.scan.1 x5 s5.there)
    refine ⟨p, us, v, rfl, rfl, x5 _ _ ne L3.lst, ?_, ?_⟩
    · rw [rA3.length, List.length_map, List.length_take, sizeLine_eq]; omega
    · have put : ExS (plus S p) H5 (upd H5 p (.lst (us ++ [v]))) := ExS.put m5 (.inr rfl)
      have L5 : LotSt K A S H1 q p ls (l + (n + 1)) 0 (us ++ [v]) (upd H5 p (.lst (us ++ [v]))) := by
        obtain ⟨sq, dx, vl, h1, h2⟩ := s5
        refine ⟨fun b o nb hb => ?_, put.mem, (L3.up.trans u5).trans (Up.exS put), ⟨sq, dx, vl, by rw [upd_ne (Ne.symm ne)]; exact h1, h2.mono put⟩, upd_same⟩
        have nbp : b ≠ p := fun z => by rw [z, hp] at hb; cases hb
        rw [upd_ne nbp]
        exact (L3.ex.trans x5) b o nb hb
      refine ⟨ks.length - (n + 1), by omega, n + 1, us ++ [v], rfl, hlt, rfl, L5, ?_⟩
      have e : (ks.take (n + 1)).map kindR = (ks.take n).map kindR ++ [kindR kd] := by
        rw [List.take_add_one, hkd, List.map_append]; rfl
      rw [e]
      exact ((u5.arr rA3).app (.cons r5 .nil)).mono put
  · have e : n = ks.length := by omega
    subst e
    rw [decide_eq_false (show ¬ ((ks.length : Nat) : Int) < (ks.length : Nat) by omega), if_neg Bool.false_ne_true]
    rw [List.take_length] at rA3
    exact ⟨.ref p, rfl, L3.give s1.1 m1 hp rA3 (k.mono (Ex.ex1 e1))⟩
/-! ### taken_collector -/
def restR : Cl → List D
  | .none => []
  | .halves => []
  | .counts m o => [optD m, .str o]
  | .marks gs => [.lst (gs.map D.str)]
  | .young n r => [.int n, .str r]
def collR (c : Cl) : D := .lst (.str (wordC c) :: restR c)
def spTColl (K : PySem.W.Frag) (A : Ads) : Sp := fun vs H Q _ => ∃ S q ls l c, vs = [.ref q] ∧ Mem S H ∧ ScanAt K A S H q ls l 0 ∧ LinesG ls ∧ l < ls.length ∧ ls.getD l [] = collW c ∧ CollOk c ∧ Gv K A S H q ls (l + 1) 0 (collR c) Q
theorem wordC_mem (c : Cl) : wordC c ∈ lCOLLECTORS := by cases c <;> (simp only [wordC]; decide +kernel)
/-- append what a call gives -/
theorem ts_app2 {H0 : Hp} {vs : List V} {ds : List D} {d : D} {j : Nat} {te : TE} {D0 : Ends} (L : LotSt K A S H0 q p ls l a vs H) (rA : RpA K (plus S p) H vs ds) (hp0 : H0 p = none) (ne : p ≠ q) (hσ : σ[j]? = some (some (.ref p))) (hl : ds.length ≤ 1000)
    (he : ∀ Q, Gv K A (plus S p) H q ls l (a + 1) d Q → te σ H Q) (k : ∀ ws H', LotSt K A S H0 q p ls l (a + 1) ws H' → RpA K (plus S p) H' ws (ds ++ [d]) → D0.nx σ H') : tDrop (tBM K "list" rAppend (tVar j) (tCons te tNil)) D0 σ H := by
  refine ts_append hσ L.lst (he _ fun v H1 x1 m1 s1 r1 => ?_)
  have u1 : Up K (plus S p) H (plus S p) H1 := Up.exS (Ex1.exS L.mem L.scan.1 x1 s1.there)
  refine ⟨p, vs, v, rfl, rfl, x1 _ _ ne L.lst, by rw [rA.length, sizeLine_eq]; omega, ?_⟩
  have put : ExS (plus S p) H1 (upd H1 p (.lst (vs ++ [v]))) := ExS.put m1 (.inr rfl)
  exact k _ _ (L.put hp0 ne x1 m1 s1) (((u1.arr rA).app (.cons r1 .nil)).mono put)
theorem pr_tcoll (Y : Tp A K) (vs : List V) (H : Hp) (Q : VK) (E : XK) (hh : spTColl K A vs H Q E) : t_taken_collector K A E (spTakeOf K A) (spCount K A) (spTLot K A) (spTakeNum K A) (spEndLine K A) { nx := fun _ H' => Q .non H', rt := Q } (start ["scan", "found"] vs) H := by
  obtain ⟨S, q, ls, l, c, rfl, m, hs, G, hl, hg, ok, k⟩ := hh
  show t_taken_collector K A E (spTakeOf K A) (spCount K A) (spTLot K A) (spTakeNum K A) (spEndLine K A) { nx := fun _ H' => Q .non H', rt := Q } [some (.ref q), none] H
  refine td_seq (ok_takeof (i := 0) (w := "collector") (ws := ["collector"]) G m rfl hs hl (by rw [hg]; rfl) (ev_one m ev_str) (.inr rfl) (List.mem_singleton.mpr rfl) fun _ H1 x1 m1 s1 _ => ?_)
  refine ok_takeof (i := 0) (w := wordC c) (ws := lCOLLECTORS) G m1 rfl s1 hl (by rw [hg]; rfl) (ev_T Y.collectors) seq_T (wordC_mem c) fun v2 H2 x2 m2 s2 r2 => ?_
  cases r2
  refine ⟨by rw [sizeLine_eq]; show 1 ≤ _; omega, fun p hp => ?_⟩
  have ne : p ≠ q := fun z => by
    obtain ⟨o, ho⟩ := s2.there
    rw [← z, hp] at ho; cases ho
  have L0 : LotSt K A S H2 q p ls l 2 [.str (wordC c)] (upd H2 p (.lst [.str (wordC c)])) := by
    have eN : Ex H2 (upd H2 p (.lst [.str (wordC c)])) := Evl.Ex.new hp
    have mm : Mem (plus S p) (upd H2 p (.lst [.str (wordC c)])) := fun b s => by
      rcases s with s | s
      · obtain ⟨o, ho⟩ := m2 b s
        exact ⟨o, eN _ _ ho⟩
      · exact ⟨_, by rw [s]; exact upd_same⟩
    have up1 : Up K S H2 (plus S p) (upd H2 p (.lst [.str (wordC c)])) := fun v d r => (r.plus hp).mono ⟨fun a o _ h => eN _ _ h, mm⟩
    obtain ⟨sq, dx, vl, h1, h2⟩ := s2
    exact ⟨Ex.ex1 eN, mm, up1, ⟨.inl sq, dx, vl, eN _ _ h1, up1 _ _ h2⟩, upd_same⟩
  generalize upd H2 p (.lst [.str (wordC c)]) = H3 at L0
  have r0 : RpA K (plus S p) H3 [.str (wordC c)] [.str (wordC c)] := .cons (.str _) .nil
  have wo := wordC_ok c
  -- the end of the line
  have fin : ∀ us H', LotSt K A S H2 q p ls l (collW c).length us H' → RpA K (plus S p) H' us (.str (wordC c) :: restR c) → (tSeq (tDrop (tMeth A.cScan "end_line" (spEndLine K A) [] E (tVar 0) tNil)) (tRet (tVar 1))) { nx := fun _ H' => Q .non H', rt := Q } [some (.ref q), some (.ref p)] H' := fun us H' L rA => by
    refine td_seq (ok_endline (i := 0) G L.mem rfl L.scan hl (by rw [hg]) fun _ H4 x4 m4 s4 _ => ?_)
    have u4 : Up K (plus S p) H' (plus S p) H4 := Up.exS (Ex1.exS L.mem L.scan.1 x4 s4.there)
    have L4 : LotSt K A S H2 q p ls (l + 1) 0 us H4 := ⟨L.ex.trans x4, m4, L.up.trans u4, s4, x4 _ _ ne L.lst⟩
    exact ⟨.ref p, rfl, L4.give s2.1 m2 hp (u4.arr rA) (k.mono (x1.trans x2))⟩
  have w0 : ∀ {HH : Hp} {us : List V}, LotSt K A S H2 q p ls l 2 us HH → RpA K (plus S p) HH us [.str (wordC c)] → EvD K (plus S p) (tOp (rIx K) (tVar 1) (tC (.int 0))) [some (.ref q), some (.ref p)] HH (.str (wordC c)) := fun L rA => ev_ixM (j := 0) L.mem rfl L.lst rA rfl
  have tt : ∀ {HH : Hp} {us : List V} (x : Str), LotSt K A S H2 q p ls l 2 us HH → RpA K (plus S p) HH us [.str (wordC c)] → PyData.strOk x = true → EvB (tTest (tOp (rEqD K) (tOp (rIx K) (tVar 1) (tC (.int 0))) (tC (.str x)))) [some (.ref q), some (.ref p)] HH (decide (wordC c = x)) := fun x L rA ox => teq L.mem (w0 L rA) wo ox
  refine ts_ifseq (tt "counts" L0 r0 (by decide +kernel)) fun H4 e4 => ?_
  have L4 := L0.grow hp ne e4
  have r4 : RpA K (plus S p) H4 [.str (wordC c)] [.str (wordC c)] := .cons (.str _) .nil
  by_cases hc1 : wordC c = "counts"
  · rw [decide_eq_true hc1, if_pos rfl]
    obtain ⟨o, w, rfl⟩ : ∃ o w, c = .counts o w := by
      cases c with
      | counts o w => exact ⟨o, w, rfl⟩
      | none => exact absurd hc1 (show ¬ ("none" : Str) = "counts" by decide +kernel)
      | halves => exact absurd hc1 (show ¬ ("halves" : Str) = "counts" by decide +kernel)
      | marks _ => exact absurd hc1 (show ¬ ("marks" : Str) = "counts" by decide +kernel)
      | young _ _ => exact absurd hc1 (show ¬ ("young" : Str) = "counts" by decide +kernel)
    refine td_seq' (ts_app2 (d := optD o) L4 r4 hp ne rfl (by show 1 ≤ _; decide) (fun Q' kk => ⟨_, rfl, plus S p, q, ls, l, 2, o, rfl, L4.mem, L4.scan, G, hl, by rw [hg]; rfl, ok.1, kk⟩) fun us H5 L5 r5 => ?_)
    exact ts_app2 (d := .str w) L5 r5 hp ne rfl (by show 2 ≤ _; decide) (fun Q' kk => ok_takeof (i := 0) (w := w) (ws := lORDERS) G L5.mem rfl L5.scan hl (by rw [hg]; rfl) (ev_T Y.orders) seq_T ok.2 kk) fun us' H6 L6 r6 => fin us' H6 L6 r6
  · rw [decide_eq_false hc1, if_neg (by decide)]
    refine ts_if (tt "marks" L4 r4 (by decide +kernel)) fun H5 e5 => ?_
    have L5 := L4.grow hp ne e5
    have r5 : RpA K (plus S p) H5 [.str (wordC c)] [.str (wordC c)] := .cons (.str _) .nil
    by_cases hc2 : wordC c = "marks"
    · rw [decide_eq_true hc2, if_pos rfl]
      obtain ⟨gs, rfl⟩ : ∃ gs, c = .marks gs := by
        cases c with
        | marks gs => exact ⟨gs, rfl⟩
        | none => exact absurd hc2 (show ¬ ("none" : Str) = "marks" by decide +kernel)
        | halves => exact absurd hc2 (show ¬ ("halves" : Str) = "marks" by decide +kernel)
        | counts _ _ => exact absurd rfl hc1
        | young _ _ => exact absurd hc2 (show ¬ ("young" : Str) = "marks" by decide +kernel)
      refine ts_append rfl L5.lst ⟨_, rfl, plus S p, q, ls, l, 2, .ref A.tGUARDS, strsT lGUARDS, lGUARDS, gs, rfl, L5.mem, L5.scan, G, hl, by rw [hg]; rfl, by rw [hg]; show 2 ≤ gs.length + 1 + 1; omega, .tup (.inr Y.guards) (rpA_strs _), seq_T, ok, by decide +kernel, by decide, fun v H6 x6 m6 s6 r6 => ?_⟩
      have u6 : Up K (plus S p) H5 (plus S p) H6 := Up.exS (Ex1.exS L5.mem L5.scan.1 x6 s6.there)
      refine ⟨p, _, v, rfl, rfl, x6 _ _ ne L5.lst, by rw [sizeLine_eq]; show 1 < _; omega, ?_⟩
      have put : ExS (plus S p) H6 (upd H6 p (.lst ([.str (wordC (.marks gs))] ++ [v]))) := ExS.put m6 (.inr rfl)
      rw [hg] at s6
      exact fin _ _ (L5.put hp ne x6 m6 s6) (((u6.arr r5).app (.cons r6 .nil)).mono put)
    · rw [decide_eq_false hc2, if_neg (by decide)]
      refine ts_if (tt "young" L5 r5 (by decide +kernel)) fun H6 e6 => ?_
      have L6 := L5.grow hp ne e6
      have r6 : RpA K (plus S p) H6 [.str (wordC c)] [.str (wordC c)] := .cons (.str _) .nil
      by_cases hc3 : wordC c = "young"
      · rw [decide_eq_true hc3, if_pos rfl]
        obtain ⟨n, w, rfl⟩ : ∃ n w, c = .young n w := by
          cases c with
          | young n w => exact ⟨n, w, rfl⟩
          | none => exact absurd hc3 (show ¬ ("none" : Str) = "young" by decide +kernel)
          | halves => exact absurd hc3 (show ¬ ("halves" : Str) = "young" by decide +kernel)
          | counts _ _ => exact absurd rfl hc1
          | marks _ => exact absurd rfl hc2
        refine td_seq' (ts_app2 (d := .int n) L6 r6 hp ne rfl (by show 1 ≤ _; decide) (fun Q' kk => ok_takenum (i := 0) (n := n) (lo := 1) (hi := 12 - 1) G L6.mem rfl L6.scan hl (by rw [hg]; rfl) (ea_cons L6.mem ev_int (ea_cons L6.mem (ev_op L6.mem ev_int ev_int r_sub) ea_nil)) (by have := ok.1.1; omega) (by have := ok.1.2; omega) ok.1.1 (by have := ok.1.2; omega) kk) fun us H7 L7 r7 => ?_)
        exact ts_app2 (d := .str w) L7 r7 hp ne rfl (by show 2 ≤ _; decide) (fun Q' kk => ok_takeof (i := 0) (w := w) (ws := lREMEMBERS) G L7.mem rfl L7.scan hl (by rw [hg]; rfl) (ev_T Y.remembers) seq_T ok.2 kk) fun us' H8 L8 r8 => fin us' H8 L8 r8
      · rw [decide_eq_false hc3, if_neg (by decide)]
        have h2 : (collW c).length = 2 ∧ restR c = [] := by
          cases c with
          | none => exact ⟨rfl, rfl⟩
          | halves => exact ⟨rfl, rfl⟩
          | counts _ _ => exact absurd rfl hc1
          | marks _ => exact absurd rfl hc2
          | young _ _ => exact absurd rfl hc3
        refine fin [.str (wordC c)] H6 ?_ ?_
        · rw [h2.1]; exact L6
        · rw [h2.2]; exact r6
end
end Nv
set_option Elab.async false
set_option linter.all false
set_option maxRecDepth 100000
set_option maxHeartbeats 4000000
/-! A house's text, split again. -/
namespace Nv
open PySem PySem.Spec PyProof.Rows L2 StX NvZ
def voc0 : List Str := ["cells", "kind", ":", "registers", "live", "rooms", "first", "last", "best", "worst", "buddy", "slots", "collector", "none", "counts", "marks", "halves", "young", "after", "again"]
def voc1 : List Str := ["before", "black", "load", "all", "more", "less", "pace", "free", "-", "need", "finish", "refuse", "slide", "no", "yes", "asked", "full", "lost", "swept"]
def voc : List Str := voc0 ++ voc1 ++ to12.map istr
theorem voc_ok : ∀ w ∈ voc, wdB w = true ∧ ∀ c ∈ TL.tl w, c < 256 ∧ c ≠ 10 ∧ c ≠ 32 := by decide +kernel
theorem voc_num {i : Int} (h0 : 0 ≤ i) (h1 : i ≤ 12) : istr i ∈ voc := List.mem_append.mpr (.inr (List.mem_map.mpr ⟨i, mem12 h0 h1, rfl⟩))
theorem voc_opt {z : Str} {o : Option Int} (hz : z ∈ voc) (h : ∀ v, o = some v → 0 ≤ v ∧ v ≤ 12) : optS z o ∈ voc := by
  cases o with
  | none => exact hz
  | some i => exact voc_num (h i rfl).1 (h i rfl).2
theorem voc_sub {l : List Str} (hl : ∀ x ∈ l, x ∈ voc) {x : Str} (h : x ∈ l) : x ∈ voc := hl x h
theorem voc_wordC (c : Cl) : wordC c ∈ voc := by cases c <;> (simp only [wordC]; decide +kernel)
def LineV (ws : List Str) : Prop := ws ≠ [] ∧ ∀ w ∈ ws, w ∈ voc
theorem LineV.two {a b : Str} (ha : a ∈ voc) (hb : b ∈ voc) : LineV [a, b] := ⟨by simp, fun w hw => by
  rcases List.mem_cons.mp hw with rfl | hw
  · exact ha
  · rcases List.mem_cons.mp hw with rfl | hw
    · exact hb
    · cases hw⟩
theorem LineV.cons {a : Str} {l : List Str} (ha : a ∈ voc) (h : ∀ w ∈ l, w ∈ voc) : LineV (a :: l) := ⟨by simp, fun w hw => by
  rcases List.mem_cons.mp hw with rfl | hw
  · exact ha
  · exact h w hw⟩
theorem kind_voc {many : Int} {k : Kind} (ok : KindOk many k) (hm : many ≤ 3) : LineV (kindW k) := by
  refine .cons (by decide +kernel) fun w hw => ?_
  rcases List.mem_cons.mp hw with rfl | hw
  · exact voc_num (by have := ok.lo; omega) (by have := ok.hi; omega)
  · obtain ⟨ws, hws, hw⟩ := List.mem_flatten.mp hw
    obtain ⟨l, hl, rfl⟩ := List.mem_map.mp hws
    rcases List.mem_cons.mp hw with rfl | hw
    · decide +kernel
    · obtain ⟨i, hi, rfl⟩ := List.mem_map.mp hw
      have := (ok.each l hl).rng i hi
      exact voc_num this.1 (by omega)
theorem coll_voc {c : Cl} (ok : CollOk c) : LineV (collW c) := by
  refine .cons (by decide +kernel) fun w hw => ?_
  rcases List.mem_cons.mp hw with rfl | hw
  · exact voc_wordC c
  · cases c with
    | none => cases hw
    | halves => cases hw
    | counts m o =>
      rcases List.mem_cons.mp hw with rfl | hw
      · exact voc_opt (by decide +kernel) fun v e => by have := ok.1 v e; omega
      · rcases List.mem_cons.mp hw with rfl | hw
        · exact voc_sub (l := lORDERS) (by decide +kernel) ok.2
        · cases hw
    | marks gs => exact voc_sub (l := lGUARDS) (by decide +kernel) (WLotOk.mem ok w hw)
    | young n r =>
      rcases List.mem_cons.mp hw with rfl | hw
      · exact voc_num (by have := ok.1.1; omega) (by have := ok.1.2; omega)
      · rcases List.mem_cons.mp hw with rfl | hw
        · exact voc_sub (l := lREMEMBERS) (by decide +kernel) ok.2
        · cases hw
theorem lines_voc {h : Hs} (P : PartsOk h) : ∀ ws ∈ houseL h, LineV ws := fun ws hws => by
  have many3 : ((h.kinds.length : Nat) : Int) ≤ 3 := by have := P.k2; omega
  rcases List.mem_cons.mp hws with rfl | hws
  · exact .two (by decide +kernel) (voc_num (by have := P.c1; omega) P.c2)
  · rcases List.mem_append.mp hws with hws | hws
    · obtain ⟨k, hk, rfl⟩ := List.mem_map.mp hws
      exact kind_voc (P.kinds k hk) many3
    · have hws' : ws = [("registers" : Str), istr h.registers] ∨ ws = [("live" : Str), istr h.live] ∨ ws = [("rooms" : Str), h.rooms] ∨ ws = collW h.coll ∨ ws = [("pace" : Str), optS "free" h.pace] ∨ ws = [("need" : Str), h.need] ∨ ws = [("slide" : Str), truthW h.slide] ∨ ws = ("asked" : Str) :: h.asked := by
        simpa [tailL] using hws
      rcases hws' with rfl | rfl | rfl | rfl | rfl | rfl | rfl | rfl
      · exact .two (by decide +kernel) (voc_num (by have := P.r1; omega) (by have := P.r2; omega))
      · exact .two (by decide +kernel) (voc_num (by have := P.l1; omega) P.l2)
      · exact .two (by decide +kernel) (voc_sub (l := lROOMS) (by decide +kernel) P.rooms)
      · exact coll_voc P.coll
      · exact .two (by decide +kernel) (voc_opt (by decide +kernel) fun v e => by have := P.pace v e; omega)
      · exact .two (by decide +kernel) (voc_sub (l := lNEEDS) (by decide +kernel) P.need)
      · exact .two (by decide +kernel) (by cases h.slide <;> decide +kernel)
      · exact .cons (by decide +kernel) fun w hw => voc_sub (l := lBREAKS) (by decide +kernel) (P.asked.mem w hw)
theorem lines_g {h : Hs} (P : PartsOk h) : LinesG (houseL h) := ⟨by have := lines_len P; omega, fun ws hws => ⟨(rows_ok P ws hws).len, fun w hw => (voc_ok w ((lines_voc P ws hws).2 w hw)).1⟩⟩
theorem nl_tl : TL.tl ("\n" : Str) = 10 :: [] := by decide +kernel
theorem sp_tl : TL.tl (" " : Str) = 32 :: [] := by decide +kernel
theorem mem_joinL {c : Nat} {S : List Nat} : ∀ {ps : List (List Nat)}, c ∈ TL.joinL S ps → c ∈ S ∨ ∃ p ∈ ps, c ∈ p
  | [], h => by cases h
  | [p], h => .inr ⟨p, by simp, h⟩
  | p :: q :: r, h => by
    have h' : c ∈ p ++ (S ++ TL.joinL S (q :: r)) := h
    rw [List.mem_append, List.mem_append] at h'
    rcases h' with h | h | h
    · exact .inr ⟨p, by simp, h⟩
    · exact .inl h
    · rcases mem_joinL h with h | ⟨x, hx, h⟩
      · exact .inl h
      · exact .inr ⟨x, List.mem_cons_of_mem _ hx, h⟩
theorem mem_join {c : Nat} {y : Str} {ps : List Str} (h : c ∈ TL.tl (Txt.join y ps)) : c ∈ TL.tl y ∨ ∃ p ∈ ps, c ∈ TL.tl p := by
  rw [TL.join_eq, TL.tl_join] at h
  rcases mem_joinL h with h | ⟨p, hp, h⟩
  · exact .inl h
  · obtain ⟨z, hz, rfl⟩ := List.mem_map.mp hp
    exact .inr ⟨z, hz, h⟩
theorem line_chars {ws : List Str} (hw : ∀ w ∈ ws, w ∈ voc) : ∀ c ∈ TL.tl (Txt.join " " ws), c < 256 ∧ c ≠ 10 := fun c h => by
  rcases mem_join h with h | ⟨p, hp, h⟩
  · rw [sp_tl] at h
    have : c = 32 := by simpa using h
    rw [this]; decide
  · have := (voc_ok p (hw p hp)).2 c h
    exact ⟨this.1, this.2.1⟩
theorem split_text {h : Hs} (P : PartsOk h) : Txt.split (houseT h) "\n" = (houseL h).map (Txt.join " ") := by
  refine TL.split_join nl_tl (by decide +kernel) (fun z => by cases z) fun p hp hc => ?_
  obtain ⟨ws, hws, rfl⟩ := List.mem_map.mp hp
  exact (line_chars (lines_voc P ws hws).2 10 hc).2 rfl
theorem split_line {ws : List Str} (h : LineV ws) : Txt.split (Txt.join " " ws) " " = ws :=
  TL.split_join sp_tl (by decide +kernel) h.1 fun p hp hc => ((voc_ok p (h.2 p hp)).2 32 hc).2.2 rfl
theorem lines_back {h : Hs} (P : PartsOk h) : linesOf (houseT h) = houseL h := by
  unfold linesOf
  rw [split_text P, List.map_map]
  conv => rhs; rw [← List.map_id (houseL h)]
  refine List.map_congr_left fun ws hws => ?_
  exact split_line (lines_voc P ws hws)
theorem houseT_ok {h : Hs} (P : PartsOk h) : PyData.strOk (houseT h) = true := by
  show (houseT h).cps.all (· < 0x110000) = true
  rw [Array.all_eq_true_iff_forall_mem]
  intro c hc
  have hc' : c ∈ TL.tl (houseT h) := Array.mem_toList_iff.mpr hc
  have : c < 256 := by
    rcases mem_join hc' with h | ⟨p, hp, h⟩
    · rw [nl_tl] at h
      have : c = 10 := by simpa using h
      omega
    · obtain ⟨ws, hws, rfl⟩ := List.mem_map.mp hp
      exact (line_chars (lines_voc P ws hws).2 c h).1
  exact decide_eq_true (by omega)
theorem txt_okH {h : Hs} (P : PartsOk h) : TxtOk (houseT h) := by
  refine ⟨houseT_ok P, by have := houseT_len P; omega, ?_, ?_, ?_⟩
  · rw [split_text P, List.length_map]
    have := lines_len P
    omega
  · intro l hl
    rw [split_text P] at hl
    obtain ⟨ws, hws, rfl⟩ := List.mem_map.mp hl
    have := row_join (rows_ok P ws hws)
    omega
  · rw [lines_back P]
    exact (lines_g P).each
theorem text_inj {h g : Hs} (P : PartsOk h) (R : PartsOk g) (e : houseT h = houseT g) : houseL h = houseL g := by rw [← lines_back P, ← lines_back R, e]
end Nv
set_option Elab.async false
set_option linter.all false
set_option maxRecDepth 100000
set_option maxHeartbeats 4000000
/-! Equal rows, equal texts. -/
namespace Nv
open PySem PySem.Spec PyProof.Rows L2 StX NvZ
/-! ### == of data without truths -/
mutual
def nb : D → Bool
  | .bl _ => false
  | .dic => false
  | .ins _ => false
  | .lst ds => nbA ds
  | .tup ds => nbA ds
  | _ => true
def nbA : List D → Bool
  | [] => true
  | d :: ds => nb d && nbA ds
end
def eqA (ds es : List D) : Bool := PyData.eqvAll (pdA ds) (pdA es)
theorem eqA_cons (d e : D) (ds es : List D) : eqA (d :: ds) (e :: es) = (eqD d e && eqA ds es) := rfl
mutual
theorem eq_nb : ∀ (d e : D), nb d = true → nb e = true → eqD d e = true → d = e
  | .non, e, _, he, h => by
    cases e with
    | non => rfl
    | bl _ => cases he
    | dic => cases he
    | ins _ => cases he
    | _ => cases h
  | .int i, e, _, he, h => by
    cases e with
    | int j =>
      have h' : (i == j) = true := h
      rw [beq_iff_eq.mp h']
    | bl _ => cases he
    | dic => cases he
    | ins _ => cases he
    | _ => cases h
  | .str i, e, _, he, h => by
    cases e with
    | str j =>
      have h' : (i == j) = true := h
      rw [beq_iff_eq.mp h']
    | bl _ => cases he
    | dic => cases he
    | ins _ => cases he
    | _ => cases h
  | .lst ds, e, hd, he, h => by
    cases e with
    | lst es => rw [eq_nbA ds es hd he h]
    | bl _ => cases he
    | dic => cases he
    | ins _ => cases he
    | _ => cases h
  | .tup ds, e, hd, he, h => by
    cases e with
    | tup es => rw [eq_nbA ds es hd he h]
    | bl _ => cases he
    | dic => cases he
    | ins _ => cases he
    | _ => cases h
  | .bl _, _, hd, _, _ => by cases hd
  | .dic, _, hd, _, _ => by cases hd
  | .ins _, _, hd, _, _ => by cases hd
theorem eq_nbA : ∀ (ds es : List D), nbA ds = true → nbA es = true → eqA ds es = true → ds = es
  | [], [], _, _, _ => rfl
  | [], _ :: _, _, _, h => by cases h
  | _ :: _, [], _, _, h => by cases h
  | d :: ds, e :: es, hd, he, h => by
    have hd' : nb d = true ∧ nbA ds = true := by simpa [nbA] using hd
    have he' : nb e = true ∧ nbA es = true := by simpa [nbA] using he
    have h' : eqD d e = true ∧ eqA ds es = true := by
      rw [eqA_cons] at h
      simpa using h
    rw [eq_nb d e hd'.1 he'.1 h'.1, eq_nbA ds es hd'.2 he'.2 h'.2]
end
mutual
theorem eq_self : ∀ d : D, plainD d = true → eqD d d = true
  | .non, _ => rfl
  | .bl b, _ => by cases b <;> rfl
  | .int i, _ => by show (i == i) = true; simp
  | .str i, _ => by show (i == i) = true; simp
  | .lst ds, h => eq_selfA ds h
  | .tup ds, h => eq_selfA ds h
  | .dic, h => by cases h
  | .ins _, h => by cases h
theorem eq_selfA : ∀ ds : List D, plainA ds = true → eqA ds ds = true
  | [], _ => rfl
  | d :: ds, h => by
    have h' : plainD d = true ∧ plainA ds = true := by simpa [plainA] using h
    rw [eqA_cons, eq_self d h'.1, eq_selfA ds h'.2]; rfl
end
theorem nbA_map {α : Type} {f : α → D} (hf : ∀ a, nb (f a) = true) : ∀ l : List α, nbA (l.map f) = true
  | [] => rfl
  | a :: l => by show (nb (f a) && nbA (l.map f)) = true; rw [hf a, nbA_map hf l]; rfl
theorem nb_ints (l : List Int) : nb (intsD l) = true := nbA_map (fun _ => rfl) l
theorem nb_strs (l : List Str) : nb (strsT l) = true := nbA_map (fun _ => rfl) l
theorem nb_kind (k : Kind) : nb (kindD k) = true := by
  show (true && (nbA (k.2.map intsD) && true)) = true
  rw [nbA_map nb_ints]; rfl
theorem nb_kinds (ks : List Kind) : nb (kindsD ks) = true := nbA_map nb_kind ks
theorem nb_opt (o : Option Int) : nb (optD o) = true := by cases o <;> rfl
theorem nb_coll (c : Cl) : nb (collD c) = true := by
  cases c with
  | none => rfl
  | halves => rfl
  | counts m o => cases m <;> rfl
  | young n r => rfl
  | marks gs =>
    show (true && (nb (strsT gs) && true)) = true
    rw [nb_strs]; rfl
/-! ### plain data -/
theorem plainA_map {α : Type} {f : α → D} {l : List α} (hf : ∀ a ∈ l, plainD (f a) = true) : plainA (l.map f) = true := by
  induction l with
  | nil => rfl
  | cons a l ih =>
    show (plainD (f a) && plainA (l.map f)) = true
    rw [hf a (List.mem_cons_self ..), ih fun x hx => hf x (List.mem_cons_of_mem _ hx)]; rfl
theorem plain_kinds (ks : List Kind) : plainD (kindsD ks) = true := plainA_map fun k _ => by
  show (true && (plainA (k.2.map intsD) && true)) = true
  rw [plainA_map (f := intsD) fun l _ => (plainA_map fun _ _ => rfl : plainA (l.map D.int) = true)]; rfl
theorem voc_str {w : Str} (h : w ∈ voc) : PyData.strOk w = true := by
  have hw := (voc_ok w h).1
  have hw' : (PyData.strOk w && decide (w.length ≤ 100) && (!digits w || (decide (w.length = 0) || (PySem.intText? w).isSome))) = true := hw
  rw [Bool.and_eq_true, Bool.and_eq_true] at hw'
  exact hw'.1.1
theorem plain_strs {l : List Str} (h : ∀ w ∈ l, w ∈ voc) : plainD (strsT l) = true := plainA_map fun w hw => voc_str (h w hw)
theorem plain_coll {c : Cl} (ok : CollOk c) : plainD (collD c) = true := by
  have wo := wordC_ok c
  show (PyData.strOk (wordC c) && plainA (restC c)) = true
  rw [wo]
  cases c with
  | none => rfl
  | halves => rfl
  | counts m o =>
    have : PyData.strOk o = true := voc_str (voc_sub (l := lORDERS) (by decide +kernel) ok.2)
    cases m <;> (show (true && (true && (PyData.strOk o && true))) = true; rw [this]; rfl)
  | young n r =>
    have : PyData.strOk r = true := voc_str (voc_sub (l := lREMEMBERS) (by decide +kernel) ok.2)
    show (true && (true && (PyData.strOk r && true))) = true
    rw [this]; rfl
  | marks gs =>
    have : plainD (strsT gs) = true := plain_strs fun w hw => voc_sub (l := lGUARDS) (by decide +kernel) (WLotOk.mem ok w hw)
    show (true && (plainD (strsT gs) && true)) = true
    rw [this]; rfl
theorem plain_row {h : Hs} (P : PartsOk h) : plainA (rowL h) = true := by
  have h1 := plain_kinds h.kinds
  have h2 := rooms_ok P
  have h3 := plain_coll P.coll
  have h4 : plainD (optD h.pace) = true := by cases h.pace <;> rfl
  have h5 := need_ok P
  have h6 : plainD (strsT h.asked) = true := plain_strs fun w hw => voc_sub (l := lBREAKS) (by decide +kernel) (P.asked.mem w hw)
  show (true && (plainD (kindsD h.kinds) && (true && (true && (PyData.strOk h.rooms && (plainD (collD h.coll) && (plainD (optD h.pace) && (PyData.strOk h.need && (true && (plainD (strsT h.asked) && true)))))))))) = true
  rw [h1, h2, h3, h4, h5, h6]; rfl
theorem dep_row {h : Hs} (P : PartsOk h) : depA (rowL h) ≤ 10 := by
  have h1 := (okF_kinds P).2
  have h2 := (okF_coll P.coll).2
  have h3 : dep (optD h.pace) = 0 := by cases h.pace <;> rfl
  have h4 := (okF_strs (l := h.asked) P.asked.len).2
  show max 0 (max (dep (kindsD h.kinds)) (max 0 (max 0 (max 0 (max (dep (collD h.coll)) (max (dep (optD h.pace)) (max 0 (max 0 (max (dep (strsT h.asked)) 0))))))))) ≤ 10
  omega
theorem plain_h {h : Hs} (P : PartsOk h) : plainH h := ⟨plain_row P, by have := dep_row P; show depA (rowL h) + 1 ≤ 64; omega⟩
/-! ### from rows to lines -/
def unT : D → List D
  | .tup ds => ds
  | _ => []
def unO (z : Str) : D → Str
  | .int i => istr i
  | _ => z
def unB : D → Bool
  | .bl b => b
  | _ => false
def decL : List D → List (List Str)
  | [c, ks, r, l, ro, co, pa, ne, sl, ak] => [("cells" : Str), istr (unI c)] :: ((unT ks).map (fun d => kindW (unK d)) ++ [[("registers" : Str), istr (unI r)], [("live" : Str), istr (unI l)], [("rooms" : Str), unS ro], unW (collWD co), [("pace" : Str), unO "free" pa], [("need" : Str), unS ne], [("slide" : Str), truthW (unB sl)], ("asked" : Str) :: (unT ak).map unS])
  | _ => []
theorem dec_row (h : Hs) : decL (rowL h) = houseL h := by
  have h1 : (unT (kindsD h.kinds)).map (fun d => kindW (unK d)) = h.kinds.map kindW := by
    show (h.kinds.map kindD).map _ = _
    rw [List.map_map]
    refine List.map_congr_left fun k _ => ?_
    show kindW (unK (kindD k)) = _
    rw [unK_eq]
  have h2 : unW (collWD (collD h.coll)) = collW h.coll := by
    have := collw_eq h.coll
    have e : collWD (collD h.coll) = .lst ((collW h.coll).map D.str) := this
    rw [e, unW_eq]
  have h3 : unO "free" (optD h.pace) = optS "free" h.pace := by cases h.pace <;> rfl
  have h4 : (unT (strsT h.asked)).map unS = h.asked := map_un (f := D.str) (g := unS) (fun _ => rfl) h.asked
  show [("cells" : Str), istr h.cells] :: ((unT (kindsD h.kinds)).map (fun d => kindW (unK d)) ++ [[("registers" : Str), istr h.registers], [("live" : Str), istr h.live], [("rooms" : Str), h.rooms], unW (collWD (collD h.coll)), [("pace" : Str), unO "free" (optD h.pace)], [("need" : Str), h.need], [("slide" : Str), truthW h.slide], ("asked" : Str) :: (unT (strsT h.asked)).map unS]) = _
  rw [h1, h2, h3, h4]; rfl
theorem row_of_eq {b h : Hs} (e : eqD (.tup (rowL b)) (.tup (rowL h)) = true) : rowL b = rowL h := by
  have e' : (eqD (.int b.cells) (.int h.cells) && (eqD (kindsD b.kinds) (kindsD h.kinds) && (eqD (.int b.registers) (.int h.registers) && (eqD (.int b.live) (.int h.live) && (eqD (.str b.rooms) (.str h.rooms) && (eqD (collD b.coll) (collD h.coll) && (eqD (optD b.pace) (optD h.pace) && (eqD (.str b.need) (.str h.need) && (eqD (.bl b.slide) (.bl h.slide) && (eqD (strsT b.asked) (strsT h.asked) && true)))))))))) = true := e
  simp only [Bool.and_eq_true] at e'
  obtain ⟨e1, e2, e3, e4, e5, e6, e7, e8, e9, e10, _⟩ := e'
  have s : b.slide = h.slide := by
    have e9' : (b.slide == h.slide) = true := e9
    exact beq_iff_eq.mp e9'
  unfold rowL
  rw [eq_nb _ _ rfl rfl e1, eq_nb _ _ (nb_kinds _) (nb_kinds _) e2, eq_nb _ _ rfl rfl e3, eq_nb _ _ rfl rfl e4, eq_nb _ _ rfl rfl e5, eq_nb _ _ (nb_coll _) (nb_coll _) e6, eq_nb _ _ (nb_opt _) (nb_opt _) e7, eq_nb _ _ rfl rfl e8, s, eq_nb _ _ (nb_strs _) (nb_strs _) e10]
/-! ### from lines to rows -/
theorem istr_inj {i j : Int} (h0 : 0 ≤ i) (h1 : i ≤ 12) (g0 : 0 ≤ j) (g1 : j ≤ 12) (e : istr i = istr j) : i = j := by
  have hn : ∀ i ∈ to12, num (istr i) = i := by decide +kernel
  rw [← hn i (mem12 h0 h1), ← hn j (mem12 g0 g1), e]
theorem istr_ne {z : Str} (hz : ∀ i ∈ to12, ¬ istr i = z) {i : Int} (h0 : 0 ≤ i) (h1 : i ≤ 12) : ¬ istr i = z := hz i (mem12 h0 h1)
theorem ints_inj : ∀ {l l' : List Int}, (∀ i ∈ l, 0 ≤ i ∧ i ≤ 12) → (∀ i ∈ l', 0 ≤ i ∧ i ≤ 12) → l.map istr = l'.map istr → l = l'
  | [], [], _, _, _ => rfl
  | [], _ :: _, _, _, e => by cases e
  | _ :: _, [], _, _, e => by cases e
  | i :: l, j :: l', h, g, e => by
    have e1 : istr i = istr j := by injection e
    have e2 : l.map istr = l'.map istr := by injection e
    have hi := h i (List.mem_cons_self ..)
    have hj := g j (List.mem_cons_self ..)
    rw [istr_inj hi.1 hi.2 hj.1 hj.2 e1, ints_inj (fun x hx => h x (List.mem_cons_of_mem _ hx)) (fun x hx => g x (List.mem_cons_of_mem _ hx)) e2]
def colon (F : List Str) : Prop := ∀ w : Str, F.head? = some w → w = ":"
theorem seg_inj : ∀ {a a' F F' : List Str}, (∀ w ∈ a, ¬ w = ":") → (∀ w ∈ a', ¬ w = ":") → colon F → colon F' → a ++ F = a' ++ F' → a = a' ∧ F = F'
  | [], [], _, _, _, _, _, _, e => ⟨rfl, e⟩
  | [], w :: a', F, F', _, h', hF, _, e => by
    have : F = w :: (a' ++ F') := e
    exact absurd (hF w (by rw [this]; rfl)) (h' w (List.mem_cons_self ..))
  | w :: a, [], F, F', h, _, _, hF', e => by
    have : w :: (a ++ F) = F' := e
    exact absurd (hF' w (by rw [← this]; rfl)) (h w (List.mem_cons_self ..))
  | w :: a, w' :: a', F, F', h, h', hF, hF', e => by
    have e1 : w = w' := by injection e
    have e2 : a ++ F = a' ++ F' := by injection e
    obtain ⟨r1, r2⟩ := seg_inj (fun x hx => h x (List.mem_cons_of_mem _ hx)) (fun x hx => h' x (List.mem_cons_of_mem _ hx)) hF hF' e2
    exact ⟨by rw [e1, r1], r2⟩
theorem colon_flat (ls : List (List Int)) : colon ((ls.map linkW).flatten) := fun w hw => by
  cases ls with
  | nil => cases hw
  | cons l ls =>
    have : some (":" : Str) = some w := hw
    exact (Option.some.inj this).symm
theorem links_inj : ∀ {ls ls' : List (List Int)}, (∀ l ∈ ls, ∀ i ∈ l, 0 ≤ i ∧ i ≤ 12) → (∀ l ∈ ls', ∀ i ∈ l, 0 ≤ i ∧ i ≤ 12) → (ls.map linkW).flatten = (ls'.map linkW).flatten → ls = ls'
  | [], [], _, _, _ => rfl
  | [], _ :: _, _, _, e => by cases e
  | _ :: _, [], _, _, e => by cases e
  | l :: ls, l' :: ls', h, g, e => by
    have e' : (":" : Str) :: (l.map istr ++ (ls.map linkW).flatten) = (":" : Str) :: (l'.map istr ++ (ls'.map linkW).flatten) := e
    have e2 : l.map istr ++ (ls.map linkW).flatten = l'.map istr ++ (ls'.map linkW).flatten := by injection e'
    have ni : ∀ {m : List Int}, (∀ i ∈ m, 0 ≤ i ∧ i ≤ 12) → ∀ w ∈ m.map istr, ¬ w = ":" := fun hm w hw => by
      obtain ⟨i, hi, rfl⟩ := List.mem_map.mp hw
      exact istr_ne (by decide +kernel) (hm i hi).1 (hm i hi).2
    have hl := h l (List.mem_cons_self ..)
    have gl := g l' (List.mem_cons_self ..)
    obtain ⟨r1, r2⟩ := seg_inj (ni hl) (ni gl) (colon_flat ls) (colon_flat ls') e2
    rw [ints_inj hl gl r1, links_inj (fun x hx => h x (List.mem_cons_of_mem _ hx)) (fun x hx => g x (List.mem_cons_of_mem _ hx)) r2]
theorem kind_rng {many : Int} {k : Kind} (ok : KindOk many k) (hm : many ≤ 3) : (0 ≤ k.1 ∧ k.1 ≤ 12) ∧ ∀ l ∈ k.2, ∀ i ∈ l, 0 ≤ i ∧ i ≤ 12 := ⟨⟨by have := ok.lo; omega, by have := ok.hi; omega⟩, fun l hl i hi => by have := (ok.each l hl).rng i hi; omega⟩
theorem kindW_inj {k k' : Kind} (h : (0 ≤ k.1 ∧ k.1 ≤ 12) ∧ ∀ l ∈ k.2, ∀ i ∈ l, 0 ≤ i ∧ i ≤ 12) (g : (0 ≤ k'.1 ∧ k'.1 ≤ 12) ∧ ∀ l ∈ k'.2, ∀ i ∈ l, 0 ≤ i ∧ i ≤ 12) (e : kindW k = kindW k') : k = k' := by
  have e1 : istr k.1 = istr k'.1 := by injection e with _ e; injection e
  have e2 : (k.2.map linkW).flatten = (k'.2.map linkW).flatten := by injection e with _ e; injection e
  obtain ⟨a, b⟩ := k
  obtain ⟨a', b'⟩ := k'
  have h1 : a = a' := istr_inj h.1.1 h.1.2 g.1.1 g.1.2 e1
  have h2 : b = b' := links_inj h.2 g.2 e2
  rw [h1, h2]
theorem kinds_inj : ∀ {ks ks' : List Kind}, (∀ k ∈ ks, (0 ≤ k.1 ∧ k.1 ≤ 12) ∧ ∀ l ∈ k.2, ∀ i ∈ l, 0 ≤ i ∧ i ≤ 12) → (∀ k ∈ ks', (0 ≤ k.1 ∧ k.1 ≤ 12) ∧ ∀ l ∈ k.2, ∀ i ∈ l, 0 ≤ i ∧ i ≤ 12) → ks.map kindW = ks'.map kindW → ks = ks'
  | [], [], _, _, _ => rfl
  | [], _ :: _, _, _, e => by cases e
  | _ :: _, [], _, _, e => by cases e
  | k :: ks, k' :: ks', h, g, e => by
    have e1 : kindW k = kindW k' := by injection e
    have e2 : ks.map kindW = ks'.map kindW := by injection e
    rw [kindW_inj (h k (List.mem_cons_self ..)) (g k' (List.mem_cons_self ..)) e1, kinds_inj (fun x hx => h x (List.mem_cons_of_mem _ hx)) (fun x hx => g x (List.mem_cons_of_mem _ hx)) e2]
theorem opt_inj {z : Str} {o o' : Option Int} (hz : ∀ i ∈ to12, ¬ istr i = z) (h : ∀ v, o = some v → 0 ≤ v ∧ v ≤ 12) (g : ∀ v, o' = some v → 0 ≤ v ∧ v ≤ 12) (e : optS z o = optS z o') : o = o' := by
  cases o with
  | none =>
    cases o' with
    | none => rfl
    | some j => exact absurd e.symm (istr_ne hz (g j rfl).1 (g j rfl).2)
  | some i =>
    cases o' with
    | none => exact absurd e (istr_ne hz (h i rfl).1 (h i rfl).2)
    | some j => rw [istr_inj (h i rfl).1 (h i rfl).2 (g j rfl).1 (g j rfl).2 e]
def ixC : Cl → Nat
  | .none => 0
  | .counts _ _ => 1
  | .marks _ => 2
  | .halves => 3
  | .young _ _ => 4
theorem wordC_ix (c : Cl) : wordC c = lCOLLECTORS.getD (ixC c) "" ∧ ixC c < 5 := by cases c <;> exact ⟨rfl, by simp [ixC]⟩
theorem ix_inj : ∀ i, i < 5 → ∀ j, j < 5 → lCOLLECTORS.getD i "" = lCOLLECTORS.getD j "" → i = j := by decide +kernel
theorem coll_inj {c c' : Cl} (ok : CollOk c) (ok' : CollOk c') (e : collW c = collW c') : c = c' := by
  have e1 : wordC c = wordC c' := by injection e with _ e; injection e
  have e2 : restW c = restW c' := by injection e with _ e; injection e
  have hix : ixC c = ixC c' := by
    obtain ⟨w1, l1⟩ := wordC_ix c
    obtain ⟨w2, l2⟩ := wordC_ix c'
    exact ix_inj _ l1 _ l2 (by rw [← w1, ← w2, e1])
  cases c <;> cases c' <;> first | rfl | (simp [ixC] at hix; done) | skip
  · rename_i m o m' o'
    have r1 : optS "-" m = optS "-" m' := by injection e2
    have r2 : o = o' := by injection e2 with _ e2; injection e2
    rw [opt_inj (by decide +kernel) (fun v z => by have := ok.1 v z; omega) (fun v z => by have := ok'.1 v z; omega) r1, r2]
  · rename_i gs gs'
    have r : gs = gs' := e2
    rw [r]
  · rename_i n r n' r'
    have r1 : istr n = istr n' := by injection e2
    have r2 : r = r' := by injection e2 with _ e2; injection e2
    rw [istr_inj (by have := ok.1.1; omega) (by have := ok.1.2; omega) (by have := ok'.1.1; omega) (by have := ok'.1.2; omega) r1, r2]
theorem two_inj {a b c d : Str} (e : [a, b] = [c, d]) : b = d := by injection e with _ e; injection e
theorem lines_inj {b h : Hs} (P : PartsOk b) (R : PartsOk h) (e : houseL b = houseL h) : rowL b = rowL h := by
  have many : ∀ {g : Hs}, PartsOk g → ((g.kinds.length : Nat) : Int) ≤ 3 := fun P => by have := P.k2; omega
  have e0 : [("cells" : Str), istr b.cells] = [("cells" : Str), istr h.cells] := by injection e
  have er : b.kinds.map kindW ++ tailL b = h.kinds.map kindW ++ tailL h := by injection e
  obtain ⟨ek, et⟩ := List.append_inj' er rfl
  have et' : [[("registers" : Str), istr b.registers], [("live" : Str), istr b.live], [("rooms" : Str), b.rooms], collW b.coll, [("pace" : Str), optS "free" b.pace], [("need" : Str), b.need], [("slide" : Str), truthW b.slide], ("asked" : Str) :: b.asked] = [[("registers" : Str), istr h.registers], [("live" : Str), istr h.live], [("rooms" : Str), h.rooms], collW h.coll, [("pace" : Str), optS "free" h.pace], [("need" : Str), h.need], [("slide" : Str), truthW h.slide], ("asked" : Str) :: h.asked] := et
  injection et' with t1 et'; injection et' with t2 et'; injection et' with t3 et'; injection et' with t4 et'; injection et' with t5 et'; injection et' with t6 et'; injection et' with t7 et'; injection et' with t8 et'
  have c1 : b.cells = h.cells := istr_inj (by have := P.c1; omega) P.c2 (by have := R.c1; omega) R.c2 (two_inj e0)
  have c2 : b.kinds = h.kinds := kinds_inj (fun k hk => kind_rng (P.kinds k hk) (many P)) (fun k hk => kind_rng (R.kinds k hk) (many R)) ek
  have c3 : b.registers = h.registers := istr_inj (by have := P.r1; omega) (by have := P.r2; omega) (by have := R.r1; omega) (by have := R.r2; omega) (two_inj t1)
  have c4 : b.live = h.live := istr_inj (by have := P.l1; omega) P.l2 (by have := R.l1; omega) R.l2 (two_inj t2)
  have c5 : b.rooms = h.rooms := two_inj t3
  have c6 : b.coll = h.coll := coll_inj P.coll R.coll t4
  have c7 : b.pace = h.pace := opt_inj (by decide +kernel) (fun v z => by have := P.pace v z; omega) (fun v z => by have := R.pace v z; omega) (two_inj t5)
  have c8 : b.need = h.need := two_inj t6
  have c9 : b.slide = h.slide := by
    have := two_inj t7
    cases hb : b.slide <;> cases hh : h.slide <;> first | rfl | (rw [hb, hh] at this; exact absurd this (by decide +kernel))
  have c10 : b.asked = h.asked := by injection t8
  unfold rowL
  rw [c1, c2, c3, c4, c5, c6, c7, c8, c9, c10]
theorem eq_text {b h : Hs} (P : PartsOk b) (R : PartsOk h) : eqD (.tup (rowL b)) (.tup (rowL h)) = decide (houseT b = houseT h) := by
  by_cases e : houseT b = houseT h
  · rw [decide_eq_true e, lines_inj P R (text_inj P R e)]
    exact eq_self _ (plain_h R).1
  · rw [decide_eq_false e]
    cases z : eqD (.tup (rowL b)) (.tup (rowL h)) with
    | false => rfl
    | true =>
      have hr := row_of_eq z
      have hl : houseL b = houseL h := by rw [← dec_row, ← dec_row, hr]
      exact absurd (show houseT b = houseT h by unfold houseT; rw [hl]) e
end Nv
set_option Elab.async false
set_option linter.all false
set_option maxRecDepth 100000
set_option maxHeartbeats 4000000
/-! repr of data. -/
namespace Nv
open PySem PySem.Spec PyProof.Rows L2 StX NvZ
def rReprD (K : PySem.W.Frag) : List V → Hp → VK → Prop := fun xs H Q => ∃ p d, xs = [.ref p] ∧ Dp K H (.ref p) d ∧ d.showable = true ∧ d.hasDict = false ∧ d.depth ≤ 60 ∧ d.shown.length ≤ sizeLine ∧ Q (.str d.shown) H
section
variable {X : Cx} {a : Expr} {ta : TE} {p pos : Pos} {k : Nat}
theorem cr_reprD (hG : X.A.guards = some []) (hr : Room k X.A) : CallR X (.builtin "repr") (rReprD X.K) := by
  intro pins s σ H xs us Q I r h
  obtain ⟨p, d, rfl, hd, h1, h2, h3, h4, q⟩ := h
  obtain ⟨u, rfl, r1⟩ := vals1 r
  cases r1
  obtain ⟨as, rd⟩ := Dp.reads I d _ _ hd rfl
  have hu := hr.un
  refine repr_of_reads' rd h1 (PySem.PyData.noDict_hsm h2) hG (by omega) (fun b o e => e) (fun h' u tk hk => ⟨.str d.shown, H, I.kept hk, ⟨u, rfl⟩, q⟩) h4
theorem pe_reprD (B : BltH X.mg) (hG : X.A.guards = some []) (hr : Room k X.A) (ha : PE X a ta) (hg : Gl X "repr" := by rfl) (he : starEach [a] X.env = (false, eval a X.env) :: starEach [] X.env := by rfl) : PE X (.Call (.Name "repr" p) [a] [] pos) (tCB (rReprD X.K) (tCons ta tNil)) :=
  pe_callB (cr_reprD hG hr) hg B.repr bt_repr (pa_cons ha pa_nil he) (by decide) (by decide) he
end
/-! ### small data -/
mutual
def smD : D → Bool
  | .int i => decide (0 ≤ i) && decide (i ≤ 12)
  | .str w => PyData.strOk w && decide (w.length ≤ 50)
  | .lst ds => smA ds
  | .tup ds => smA ds
  | .dic => false
  | .ins _ => false
  | _ => true
def smA : List D → Bool
  | [] => true
  | d :: ds => smD d && smA ds
end
structure Sm (d : PyData) : Prop where
  sh : d.showable = true
  nd : d.hasDict = false
  lv : d.leavesShort 13 = true
structure SmA (ds : List PyData) : Prop where
  sh : PyData.showableAll ds = true
  nd : PyData.hasDictAll ds = false
  lv : PyData.leavesShortAll 13 ds = true
theorem int12 {i : Int} (h0 : 0 ≤ i) (h1 : i ≤ 12) : Sm (.int i) := by
  have : ∀ i ∈ to12, (PyData.int i).showable = true ∧ (PyData.int i).leavesShort 13 = true := by decide +kernel
  obtain ⟨a, b⟩ := this i (mem12 h0 h1)
  exact ⟨a, rfl, b⟩
theorem str_sm {w : Str} (h : PyData.strOk w = true) : Sm (.str w) := by
  refine ⟨rfl, rfl, ?_⟩
  show (w.cps.toList.all fun c => decide (c < 16 ^ 8)) = true
  rw [List.all_eq_true]
  intro c hc
  have h' : w.cps.all (· < 0x110000) = true := h
  rw [Array.all_eq_true_iff_forall_mem] at h'
  have := h' c (Array.mem_toList_iff.mp hc)
  have hlt : c < 0x110000 := by simpa using this
  exact decide_eq_true (by omega)
mutual
theorem sm_of : ∀ d : D, smD d = true → Sm (pd d)
  | .non, _ => ⟨rfl, rfl, rfl⟩
  | .bl _, _ => ⟨rfl, rfl, rfl⟩
  | .int i, h => by
    have h' : 0 ≤ i ∧ i ≤ 12 := by simpa [smD] using h
    exact int12 h'.1 h'.2
  | .str w, h => by
    have h' : PyData.strOk w = true ∧ w.length ≤ 50 := by simpa [smD] using h
    exact str_sm h'.1
  | .lst ds, h => ⟨(sm_ofA ds h).sh, (sm_ofA ds h).nd, (sm_ofA ds h).lv⟩
  | .tup ds, h => ⟨(sm_ofA ds h).sh, (sm_ofA ds h).nd, (sm_ofA ds h).lv⟩
  | .dic, h => by cases h
  | .ins _, h => by cases h
theorem sm_ofA : ∀ ds : List D, smA ds = true → SmA (pdA ds)
  | [], _ => ⟨rfl, rfl, rfl⟩
  | d :: ds, h => by
    have h' : smD d = true ∧ smA ds = true := by simpa [smA] using h
    have h1 := sm_of d h'.1
    have h2 := sm_ofA ds h'.2
    refine ⟨?_, ?_, ?_⟩
    · show ((pd d).showable && PyData.showableAll (pdA ds)) = true
      rw [h1.sh, h2.sh]; rfl
    · show ((pd d).hasDict || PyData.hasDictAll (pdA ds)) = false
      rw [h1.nd, h2.nd]; rfl
    · show ((pd d).leavesShort 13 && PyData.leavesShortAll 13 (pdA ds)) = true
      rw [h1.lv, h2.lv]; rfl
end
theorem smA_map {α : Type} {f : α → D} {l : List α} (hf : ∀ a ∈ l, smD (f a) = true) : smA (l.map f) = true := by
  induction l with
  | nil => rfl
  | cons a l ih =>
    show (smD (f a) && smA (l.map f)) = true
    rw [hf a (List.mem_cons_self ..), ih fun x hx => hf x (List.mem_cons_of_mem _ hx)]; rfl
theorem smI {i : Int} (h0 : 0 ≤ i) (h1 : i ≤ 12) : smD (.int i) = true := by
  show (decide (0 ≤ i) && decide (i ≤ 12)) = true
  rw [decide_eq_true h0, decide_eq_true h1]; rfl
theorem smS {w : Str} (h : w ∈ voc) : smD (.str w) = true := by
  have hl : ∀ w ∈ voc, w.length ≤ 50 := by decide +kernel
  show (PyData.strOk w && decide (w.length ≤ 50)) = true
  rw [voc_str h, decide_eq_true (hl w h)]; rfl
theorem smT {l : List Str} (h : ∀ w ∈ l, w ∈ voc) : smD (strsT l) = true := smA_map fun w hw => smS (h w hw)
theorem sm_opt {o : Option Int} (h : ∀ v, o = some v → 0 ≤ v ∧ v ≤ 12) : smD (optD o) = true := by
  cases o with
  | none => rfl
  | some i => exact smI (h i rfl).1 (h i rfl).2
theorem sm_kind {k : Kind} (h : (0 ≤ k.1 ∧ k.1 ≤ 12) ∧ ∀ l ∈ k.2, ∀ i ∈ l, 0 ≤ i ∧ i ≤ 12) : smD (kindD k) = true := by
  show (smD (.int k.1) && (smA (k.2.map intsD) && true)) = true
  rw [smI h.1.1 h.1.2, smA_map (f := intsD) fun l hl => (smA_map fun i hi => smI (h.2 l hl i hi).1 (h.2 l hl i hi).2 : smA (l.map D.int) = true)]; rfl
theorem sm_coll {c : Cl} (ok : CollOk c) : smD (collD c) = true := by
  have w := smS (voc_wordC c)
  have key : smA (restC c) = true := by
    cases c with
    | none => rfl
    | halves => rfl
    | counts m o =>
      show (smD (optD m) && (smD (.str o) && true)) = true
      rw [sm_opt fun v e => by have := ok.1 v e; omega, smS (voc_sub (l := lORDERS) (by decide +kernel) ok.2)]; rfl
    | young n r =>
      show (smD (.int n) && (smD (.str r) && true)) = true
      rw [smI (by have := ok.1.1; omega) (by have := ok.1.2; omega), smS (voc_sub (l := lREMEMBERS) (by decide +kernel) ok.2)]; rfl
    | marks gs =>
      show (smD (strsT gs) && true) = true
      rw [smT fun w hw => voc_sub (l := lGUARDS) (by decide +kernel) (WLotOk.mem ok w hw)]; rfl
  show (smD (.str (wordC c)) && smA (restC c)) = true
  rw [w, key]; rfl
theorem sm_row {h : Hs} (P : PartsOk h) : smA (rowL h) = true := by
  have many : ((h.kinds.length : Nat) : Int) ≤ 3 := by have := P.k2; omega
  have h1 : smD (kindsD h.kinds) = true := smA_map (f := kindD) fun k hk => sm_kind (kind_rng (P.kinds k hk) many)
  have h2 := smS (voc_sub (l := lROOMS) (by decide +kernel) P.rooms)
  have h3 := sm_coll P.coll
  have h4 : smD (optD h.pace) = true := sm_opt fun v e => by have := P.pace v e; omega
  have h5 := smS (voc_sub (l := lNEEDS) (by decide +kernel) P.need)
  have h6 : smD (strsT h.asked) = true := smT fun w hw => voc_sub (l := lBREAKS) (by decide +kernel) (P.asked.mem w hw)
  show (smD (.int h.cells) && (smD (kindsD h.kinds) && (smD (.int h.registers) && (smD (.int h.live) && (smD (.str h.rooms) && (smD (collD h.coll) && (smD (optD h.pace) && (smD (.str h.need) && (true && (smD (strsT h.asked) && true)))))))))) = true
  rw [smI (by have := P.c1; omega) P.c2, h1, smI (by have := P.r1; omega) (by have := P.r2; omega), smI (by have := P.l1; omega) P.l2, h2, h3, h4, h5, h6]; rfl
/-! ### weight -/
def wD' (d : D) : Nat := (pd d).weight
def wA' (ds : List D) : Nat := PyData.weightAll (pdA ds)
theorem wA_map {α : Type} {f : α → D} {n : Nat} : ∀ {l : List α}, (∀ a ∈ l, wD' (f a) ≤ n) → wA' (l.map f) ≤ l.length * (n + 1)
  | [], _ => Nat.zero_le _
  | a :: l, h => by
    have h1 := h a (List.mem_cons_self ..)
    have h2 := wA_map fun x hx => h x (List.mem_cons_of_mem _ hx)
    show wD' (f a) + 1 + wA' (l.map f) ≤ (l.length + 1) * (n + 1)
    rw [Nat.succ_mul]
    omega
theorem w_int {i : Int} (h0 : 0 ≤ i) (h1 : i ≤ 12) : wD' (.int i) ≤ 4 := by
  have : ∀ i ∈ to12, wD' (.int i) ≤ 4 := by decide +kernel
  exact this i (mem12 h0 h1)
theorem w_str {w : Str} (h : w ∈ voc) : wD' (.str w) ≤ 50 := by
  have : ∀ w ∈ voc, wD' (.str w) ≤ 50 := by decide +kernel
  exact this w h
theorem w_strs {l : List Str} (hl : l.length ≤ 100) (h : ∀ w ∈ l, w ∈ voc) : wD' (strsT l) ≤ 100 * 51 := Nat.le_trans (wA_map (f := D.str) fun w hw => w_str (h w hw)) (Nat.mul_le_mul_right _ hl)
theorem w_kind {many : Int} {k : Kind} (ok : KindOk many k) (hm : many ≤ 3) : wD' (kindD k) ≤ 2000 := by
  have rng := kind_rng ok hm
  have lk := kind_links ok
  have h1 : wA' (k.2.map intsD) ≤ k.2.length * (500 + 1) := wA_map fun l hl => Nat.le_trans (wA_map (f := D.int) fun i hi => w_int (rng.2 l hl i hi).1 (rng.2 l hl i hi).2) (Nat.mul_le_mul_right 5 (ok.each l hl).len0)
  have h2 : k.2.length * 501 ≤ 3 * 501 := Nat.mul_le_mul_right _ lk
  have h3 := w_int rng.1.1 rng.1.2
  show wD' (.int k.1) + 1 + (wA' (k.2.map intsD) + 1 + 0) ≤ 2000
  omega
theorem w_coll {c : Cl} (ok : CollOk c) : wD' (collD c) ≤ 6000 := by
  have w := w_str (voc_wordC c)
  have key : wA' (restC c) ≤ 5200 := by
    cases c with
    | none => exact Nat.zero_le _
    | halves => exact Nat.zero_le _
    | counts m o =>
      have h1 : wD' (optD m) ≤ 4 := by
        cases m with
        | none => exact Nat.zero_le _
        | some i => exact w_int (by have := (ok.1 i rfl).1; omega) (by have := (ok.1 i rfl).2; omega)
      have h2 := w_str (voc_sub (l := lORDERS) (by decide +kernel) ok.2)
      show wD' (optD m) + 1 + (wD' (.str o) + 1 + 0) ≤ 5200
      omega
    | young n r =>
      have h1 := w_int (i := n) (by have := ok.1.1; omega) (by have := ok.1.2; omega)
      have h2 := w_str (voc_sub (l := lREMEMBERS) (by decide +kernel) ok.2)
      show wD' (.int n) + 1 + (wD' (.str r) + 1 + 0) ≤ 5200
      omega
    | marks gs =>
      have h1 := w_strs (l := gs) (WLotOk.len0 ok) fun w hw => voc_sub (l := lGUARDS) (by decide +kernel) (WLotOk.mem ok w hw)
      show wD' (strsT gs) + 1 + 0 ≤ 5200
      omega
  show wD' (.str (wordC c)) + 1 + wA' (restC c) ≤ 6000
  omega
theorem w_row {h : Hs} (P : PartsOk h) : wA' (rowL h) ≤ 30000 := by
  have many : ((h.kinds.length : Nat) : Int) ≤ 3 := by have := P.k2; omega
  have h1 : wD' (kindsD h.kinds) ≤ h.kinds.length * 2001 := wA_map (f := kindD) fun k hk => w_kind (P.kinds k hk) many
  have h1' : h.kinds.length * 2001 ≤ 3 * 2001 := Nat.mul_le_mul_right _ P.k2
  have h2 := w_str (voc_sub (l := lROOMS) (by decide +kernel) P.rooms)
  have h3 := w_coll P.coll
  have h4 : wD' (optD h.pace) ≤ 4 := by
    have hp := P.pace
    revert hp
    cases h.pace with
    | none => exact fun _ => Nat.zero_le _
    | some i => exact fun hp => w_int (hp i rfl).1 (by have := (hp i rfl).2; omega)
  have h5 := w_str (voc_sub (l := lNEEDS) (by decide +kernel) P.need)
  have h6 := w_strs (l := h.asked) P.asked.len0 fun w hw => voc_sub (l := lBREAKS) (by decide +kernel) (P.asked.mem w hw)
  have h7 := w_int (i := h.cells) (by have := P.c1; omega) P.c2
  have h8 := w_int (i := h.registers) (by have := P.r1; omega) (by have := P.r2; omega)
  have h9 := w_int (i := h.live) (by have := P.l1; omega) P.l2
  show wD' (.int h.cells) + 1 + (wD' (kindsD h.kinds) + 1 + (wD' (.int h.registers) + 1 + (wD' (.int h.live) + 1 + (wD' (.str h.rooms) + 1 + (wD' (collD h.coll) + 1 + (wD' (optD h.pace) + 1 + (wD' (.str h.need) + 1 + (0 + 1 + (wD' (strsT h.asked) + 1 + 0))))))))) ≤ 30000
  omega
def rowT' (h : Hs) : Str := (pd (.lst (rowL h))).shown
section
variable {K : PySem.W.Frag} {S : Addr → Prop} {σ : L2.St} {H : Hp}
theorem ra_repr {h : Hs} (P : PartsOk h) : RAD K S (rReprD K) H [.lst (rowL h)] (.str (rowT' h)) := fun H1 e vs r Q k => by
  obtain ⟨v, rfl, r1⟩ := r.one
  have r1' := r1
  cases r1 with
  | @lst a xs _ g1 g2 =>
    have sm := sm_of (.lst (rowL h)) (sm_row P)
    refine ⟨a, pd (.lst (rowL h)), rfl, Rp.dp (show plainD (.lst (rowL h)) = true from plain_row P) r1', sm.sh, sm.nd, ?_, ?_, k _ _ (Evl.Ex.refl _) (.str _)⟩
    · rw [dep_pd]
      have := dep_row P
      show depA (rowL h) + 1 ≤ 60
      omega
    · exact PySem.PyData.shown_fits (B := 13) (by decide) (by decide) sm.lv (by have := w_row P; show wA' (rowL h) ≤ 2 ^ 20; omega)
end
end Nv
set_option Elab.async false
set_option linter.all false
set_option maxRecDepth 100000
set_option maxHeartbeats 4000000
namespace Nv
open PySem PySem.Spec PyProof.Rows L2 StX NvZ LamX
def t_law (K : PySem.W.Frag) (A : Ads) (T : List (Addr × Str)) (TT : (XK → Hp → VK → Prop) → Hp → VK → Prop) (sp_law_pen : Sp) (sp_law_any_plain : Sp) (sp_law_whole_house : Sp) (sp_law_house_lines : Sp) (sp_house_text : Sp) (sp_read_house : Sp) (sp_law_pick : Sp) (sp_eqH : Sp) : TS := (tSeq (tAsg (tCall sp_law_pen [] E0 (tCons (tVar 0) tNil)) (gName 1))
  (tSeq (tAsg (tC .non) (gName 2))
  (tSeq (tFor (iRng1 (tCons (tC (.int 10)) tNil)) (gName 3) (tSeq (tAsg (tCall sp_law_any_plain [] E0 (tCons (tVar 1) tNil)) (gName 4))
  (tSeq (tAsg (tCall sp_law_whole_house [] E0 (tCons (tVar 4) tNil)) (gName 5))
  (tSeq (tAsg (tM1 (rJoin K) (tC (.str "\n")) (tLc (iSeq K (tCall sp_law_house_lines [] E0 (tCons (tVar 4) tNil))) (gName 10) tYes (tM1 (rJoin K) (tC (.str " ")) (tVar 10)) [10])) (gName 6))
  (tSeq (tIfS (tOr (tTest (tOp (rNeD K) (tCall sp_house_text [] E0 (tCons (tVar 5) tNil)) (tVar 6))) (tTest (tOp (rNeD K) (tKw sp_house_text [] E0 (tVar 5)) (tVar 6)))) (tRet (tC (.bl false))) tNext)
  (tSeq (tAsg (tCall sp_read_house [] E0 (tCons (tVar 6) tNil)) (gName 7))
  (tSeq (tIfS (tOr (tTest (tOp (rEqO A.cHouse sp_eqH true) (tVar 7) (tVar 5))) (tOr (tTest (tOp (rEqO A.cHouse sp_eqH true) (tKw sp_read_house [] E0 (tVar 6)) (tVar 5))) (tTest (tOp (rNeD K) (tCall sp_house_text [] E0 (tCons (tVar 7) tNil)) (tVar 6))))) (tRet (tC (.bl false))) tNext)
  (tSeq (tAsg (tLst (tCons (tFld K (tVar 7) "cells") (tCons (tFld K (tVar 7) "kinds") (tCons (tFld K (tVar 7) "registers") (tCons (tFld K (tVar 7) "live") (tCons (tFld K (tVar 7) "rooms") (tCons (tFld K (tVar 7) "collector") (tCons (tFld K (tVar 7) "pace") (tCons (tFld K (tVar 7) "need") (tCons (tFld K (tVar 7) "slide") (tCons (tFld K (tVar 7) "asked") tNil))))))))))) (gName 8))
  (tSeq (tIfS (tTest (tOp rNe (tCB (rReprD K) (tCons (tVar 8) tNil)) (tCB (rReprD K) (tCons (tLc (iSeq K (tTup (tCons (tC (.str "cells")) (tCons (tC (.str "kinds")) (tCons (tC (.str "registers")) (tCons (tC (.str "live")) (tCons (tC (.str "rooms")) (tCons (tC (.str "collector")) (tCons (tC (.str "pace")) (tCons (tC (.str "need")) (tCons (tC (.str "slide")) (tCons (tC (.str "asked")) tNil)))))))))))) (gName 11) tYes (tDGet (tVar 4) (tVar 11)) [11]) tNil)))) (tRet (tC (.bl false))) tNext)
  (tSeq (tIfS (tAnd (tTest (tOp rNotN (tVar 2) (tC .non))) (tTest (tOp (rNeD K) (tOp (rEqO A.cHouse sp_eqH false) (tVar 2) (tVar 5)) (tOp (rEqD K) (tCall sp_house_text [] E0 (tCons (tVar 2) tNil)) (tVar 6))))) (tRet (tC (.bl false))) tNext)
  (tSeq (tAsg (tVar 5) (gName 2))
  (tSeq (tAsg (tCall sp_law_pick [] E0 (tCons (tVar 1) (tCons (tLst (tCons (tC .non) (tCons (tC (.int 5)) (tCons (tVar 6) (tCons (tVar 4) (tCons (tTup (tCons (tVar 5) tNil)) tNil)))))) tNil))) (gName 9))
  (tIfS (tTest (tOp (rNeD K) (tLam T TT fun E => (tCall sp_house_text [] E (tCons (tVar 9) tNil))) (tTup (tCons (tC (.str "house")) (tCons (tC (.str "house")) tNil))))) (tRet (tC (.bl false))) tNext)))))))))))))
  (tRet (tC (.bl true))))))
end Nv
set_option Elab.async false
set_option linter.all false
set_option maxRecDepth 100000
set_option maxHeartbeats 4000000
namespace Nv
open PySem PySem.Spec PyProof.Rows L2 StX NvZ
abbrev st_law_pen : Stmt := PySem.Challenge.pw_nevergone_k91_texts_of_houses_written_an.main.body.getD 73 (.Pass ⟨0, 0, 0, 0⟩)
theorem sc_law_pen : FnScope ["script", "cell"] ["script"] (defScope st_law_pen) := ⟨rfl, rfl, rfl, by decide +kernel, rfl, by decide +kernel, by decide +kernel⟩
abbrev st_law_draw : Stmt := PySem.Challenge.pw_nevergone_k91_texts_of_houses_written_an.main.body.getD 74 (.Pass ⟨0, 0, 0, 0⟩)
theorem sc_law_draw : FnScope ["pen", "most", "great", "at", "row", "cell", "number", "mixed"] ["pen", "most"] (defScope st_law_draw) := ⟨rfl, rfl, rfl, by decide +kernel, rfl, by decide +kernel, by decide +kernel⟩
abbrev st_law_pick : Stmt := PySem.Challenge.pw_nevergone_k91_texts_of_houses_written_an.main.body.getD 75 (.Pass ⟨0, 0, 0, 0⟩)
theorem sc_law_pick : FnScope ["pen", "some"] ["pen", "some"] (defScope st_law_pick) := ⟨rfl, rfl, rfl, by decide +kernel, rfl, by decide +kernel, by decide +kernel⟩
abbrev st_law_lot : Stmt := PySem.Challenge.pw_nevergone_k91_texts_of_houses_written_an.main.body.getD 76 (.Pass ⟨0, 0, 0, 0⟩)
theorem sc_law_lot : FnScope ["pen", "some", "many", "one"] ["pen", "some", "many"] (defScope st_law_lot) := ⟨rfl, rfl, rfl, by decide +kernel, rfl, by decide +kernel, by decide +kernel⟩
abbrev st_law_any_plain : Stmt := PySem.Challenge.pw_nevergone_k91_texts_of_houses_written_an.main.body.getD 78 (.Pass ⟨0, 0, 0, 0⟩)
theorem sc_law_any_plain : FnScope ["pen", "many", "kinds", "one", "size", "word", "house", "link"] ["pen"] (defScope st_law_any_plain) := ⟨rfl, rfl, rfl, by decide +kernel, rfl, by decide +kernel, by decide +kernel⟩
abbrev st_law_whole_house : Stmt := PySem.Challenge.pw_nevergone_k91_texts_of_houses_written_an.main.body.getD 79 (.Pass ⟨0, 0, 0, 0⟩)
theorem sc_law_whole_house : FnScope ["plain", "rest", "part"] ["plain"] (defScope st_law_whole_house) := ⟨rfl, rfl, rfl, by decide +kernel, rfl, by decide +kernel, by decide +kernel⟩
abbrev st_law_house_lines : Stmt := PySem.Challenge.pw_nevergone_k91_texts_of_houses_written_an.main.body.getD 80 (.Pass ⟨0, 0, 0, 0⟩)
theorem sc_law_house_lines : FnScope ["plain", "lines", "size", "links", "word", "rest", "kind", "link", "part"] ["plain"] (defScope st_law_house_lines) := ⟨rfl, rfl, rfl, by decide +kernel, rfl, by decide +kernel, by decide +kernel⟩
section
variable {A : Ads} {P : Program} {w : World} {K : PySem.W.Frag} {mg : Str → Option Value} {base : Heap} (B : Blt mg) (BH : BltH mg) (T : Tx A P w K mg)
include B BH T
theorem wk_law_pen {k : Nat} {sp : Sp}  {f : Addr} {fd : FuncData} {dvs : List V} (F : FnP K "_law_pen" "_law_pen" st_law_pen dvs f fd) (len : ∀ vs H Q E, sp vs H Q E → vs.length = 1) (ok : ∀ vs H Q E, sp vs H Q E → (t_law_pen K A E) { nx := fun _ H' => Q .non H', rt := Q } (start ["script", "cell"] vs) H) : FnOk P w K mg base CX0 (k + 1) f fd ["script"] sp := by
  have nd := sc_law_pen.nd
  refine F.ok sc_law_pen len fun cdv A' outer s H vs Q E hr h => ⟨t_law_pen K A E, PSs.nox ?_, ok vs H Q E h⟩
  exact (pss_one (ps_ret (pe_disp (pps_cons pe_str (pe_slice sl_any (pe_lc (own := [("cell", 1)]) (g := (gName 1)) (tt := tYes) rfl nd (pi_seq (pv 0)) (blkOk_by (N := ["script", "cell"]) (sc := defScope st_law_pen) (by decide +kernel)) (fun _ _ _ _ _ => (pg_name (i := 1) nd rfl (by first | exact Or.inl rfl | exact Or.inr rfl))) (fun _ _ _ _ _ => pts_nil) (fun _ _ _ _ _ => (pv 1))) po_none (po_some pe_int)) (pps_cons pe_str pe_int (pps_cons pe_str pe_int pps_nil))) (by rfl) (by rfl) (fun z => by cases z) (by decide))))
theorem wk_law_draw {k : Nat} {sp : Sp}  {f : Addr} {fd : FuncData} {dvs : List V} (F : FnP K "_law_draw" "_law_draw" st_law_draw dvs f fd) (len : ∀ vs H Q E, sp vs H Q E → vs.length = 2) (ok : ∀ vs H Q E, sp vs H Q E → (t_law_draw K A E) { nx := fun _ H' => Q .non H', rt := Q } (start ["pen", "most", "great", "at", "row", "cell", "number", "mixed"] vs) H) : FnOk P w K mg base CX0 (k + 1) f fd ["pen", "most"] sp := by
  have nd := sc_law_draw.nd
  refine F.ok sc_law_draw len fun cdv A' outer s H vs Q E hr h => ⟨t_law_draw K A E, PSs.nox ?_, ok vs H Q E h⟩
  exact (pss_cons (ps_if (pt_cmpR op_gt (pe_dget (hu_of hr) (pv 0) pe_str (fun _ _ => rfl)) pe_int (nomark _)) (pss_cons (ps_set (i := 2) nd rfl (by first | exact Or.inl rfl | exact Or.inr rfl) (pe_intI B (pe_dget (hu_of hr) (pv 0) pe_str (fun _ _ => rfl)))) (pss_cons (ps_dput (hu_of hr) (pv 0) pe_str (pe_op op_fdivN (pv 2) (pv 1)) rfl) (pss_one (ps_ret (pe_op op_modN (pe_intI B (pv 2)) (pv 1)))))) pss_nil) (pss_cons (ps_par (i := 3) (j := 4) (by rfl) nd rfl rfl (by decide) rfl rfl (pa_cons (pe_dget (hu_of hr) (pv 0) pe_str (fun _ _ => rfl)) (pa_cons (pe_dget (hu_of hr) (pv 0) pe_str (fun _ _ => rfl)) pa_nil)) (by rfl)) (pss_cons (ps_dput (hu_of hr) (pv 0) pe_str (pe_op op_add (pv 3) pe_int) rfl) (pss_cons (ps_set (i := 5) nd rfl (by first | exact Or.inl rfl | exact Or.inr rfl) (pe_op op_add (pe_op op_mul pe_int (pv 3)) pe_int)) (pss_cons (ps_if (pt_cmpR (op_neD hr.units) (pv 4) (pe_lst pa_nil) (nomark _)) (pss_one (ps_set (i := 5) nd rfl (by first | exact Or.inl rfl | exact Or.inr rfl) (pe_ix ix_seq (pv 4) (pe_op op_modN (pe_intI B (pv 3)) (pe_len B (pv 4))) (fun _ _ => rfl)))) pss_nil) (pss_cons (ps_set (i := 6) nd rfl (by first | exact Or.inl rfl | exact Or.inr rfl) (pe_ifExp (PW.pt (pw_and (pt_val (pe_isi B (pv 5) B.int bt_int)) (pw_and1 (pt_not (pt_val (pe_isi B (pv 5) B.bool bt_bool)))))) (pv 5) pe_int)) (pss_cons (ps_if (PW.pt (pw_and (pt_cmpR op_lt (pv 3) (pe_len B (pv 4)) (nomark _)) (pw_and1 (pt_cmpR op_ge (pe_abs B (pv 6)) (pe_op op_pow pe_int pe_int) (nomark _))))) (pss_cons (ps_set (i := 2) nd rfl (by first | exact Or.inl rfl | exact Or.inr rfl) (pe_op op_add (pe_op op_mul pe_int (pe_op op_sub (pe_abs B (pv 6)) (pe_op op_pow pe_int pe_int))) (pe_intI B (pe_cmpR op_lt (pv 6) pe_int (nomark _))))) (pss_cons (ps_dput (hu_of hr) (pv 0) pe_str (pe_op op_fdivN (pe_intI B (pv 2)) (pv 1)) rfl) (pss_one (ps_ret (pe_op op_modN (pe_intI B (pv 2)) (pv 1)))))) pss_nil) (pss_cons (ps_set (i := 7) nd rfl (by first | exact Or.inl rfl | exact Or.inr rfl) (pe_op op_modN (pe_intI B (pe_op op_pow (pe_op op_add (pe_op op_add (pe_op op_modN (pe_intI B (pv 6)) pe_int) (pe_op op_mul pe_int (pv 3))) pe_int) pe_int)) pe_int)) (pss_cons (ps_set (i := 7) nd rfl (by first | exact Or.inl rfl | exact Or.inr rfl) (pe_op op_modN (pe_intI B (pe_op op_pow (pe_op op_add (pe_op op_add (pe_op op_mul (pv 7) (pe_op op_add (pe_op op_mul pe_int (pv 3)) pe_int)) (pe_op op_mul (pe_op op_mul pe_int (pv 3)) (pv 3))) pe_int) pe_int)) pe_int)) (pss_one (ps_ret (pe_op op_modN (pe_intI B (pe_op op_fdivN (pv 7) pe_int)) (pv 1)))))))))))))
theorem wk_law_pick {k : Nat} {sp : Sp} {sp_law_draw : Sp} (c_law_draw : Cal P w K mg base CX0 k "_law_draw" ["pen", "most"] sp_law_draw) {f : Addr} {fd : FuncData} {dvs : List V} (F : FnP K "_law_pick" "_law_pick" st_law_pick dvs f fd) (len : ∀ vs H Q E, sp vs H Q E → vs.length = 2) (ok : ∀ vs H Q E, sp vs H Q E → (t_law_pick K A E sp_law_draw) { nx := fun _ H' => Q .non H', rt := Q } (start ["pen", "some"] vs) H) : FnOk P w K mg base CX0 (k + 1) f fd ["pen", "some"] sp := by
  have nd := sc_law_pick.nd
  refine F.ok sc_law_pick len fun cdv A' outer s H vs Q E hr h => ⟨t_law_pick K A E sp_law_draw, PSs.nox ?_, ok vs H Q E h⟩
  exact (pss_one (ps_ret (pe_ix ix_seq (pv 1) (pe_cal c_law_draw hr pass0 (pa_cons (pv 0) (pa_cons (pe_len B (pv 1)) pa_nil))) (fun _ _ => rfl))))
theorem wk_law_lot {k : Nat} {sp : Sp} {sp_law_draw : Sp} (c_law_draw : Cal P w K mg base CX0 k "_law_draw" ["pen", "most"] sp_law_draw) {f : Addr} {fd : FuncData} {dvs : List V} (F : FnP K "_law_lot" "_law_lot" st_law_lot dvs f fd) (len : ∀ vs H Q E, sp vs H Q E → vs.length = 3) (ok : ∀ vs H Q E, sp vs H Q E → (t_law_lot K A E sp_law_draw) { nx := fun _ H' => Q .non H', rt := Q } (start ["pen", "some", "many", "one"] vs) H) : FnOk P w K mg base CX0 (k + 1) f fd ["pen", "some", "many"] sp := by
  have nd := sc_law_lot.nd
  refine F.ok sc_law_lot len fun cdv A' outer s H vs Q E hr h => ⟨t_law_lot K A E sp_law_draw, PSs.nox ?_, ok vs H Q E h⟩
  exact (pss_one (ps_ret (pe_lc (own := [("one", 3)]) (g := (gName 3)) (tt := (tTest (tOp (rEqD K) (tCall sp_law_draw [] E0 (tCons (tVar 0) (tCons (tVar 2) tNil))) (tC (.int 0))))) rfl nd (pi_seq (pv 1)) (blkOk_by (N := ["pen", "some", "many", "one"]) (sc := defScope st_law_lot) (by decide +kernel)) (fun _ _ _ _ _ => (pg_name (i := 3) nd rfl (by first | exact Or.inl rfl | exact Or.inr rfl))) (fun _ _ _ _ _ => (pts_one (pt_cmpR (op_eqD hr.units) (pe_cal c_law_draw hr pass0 (pa_cons (pv 0) (pa_cons (pv 2) pa_nil))) pe_int (nomark _)))) (fun _ _ _ _ _ => (pv 3)))))
theorem wk_law_any_plain {k : Nat} {sp : Sp} {sp_law_draw : Sp} {sp_law_lot : Sp} {sp_law_pick : Sp} (c_law_draw : Cal P w K mg base CX0 k "_law_draw" ["pen", "most"] sp_law_draw) (c_law_lot : Cal P w K mg base CX0 k "_law_lot" ["pen", "some", "many"] sp_law_lot) (c_law_pick : Cal P w K mg base CX0 k "_law_pick" ["pen", "some"] sp_law_pick) {f : Addr} {fd : FuncData} {dvs : List V} (F : FnP K "_law_any_plain" "_law_any_plain" st_law_any_plain dvs f fd) (len : ∀ vs H Q E, sp vs H Q E → vs.length = 1) (ok : ∀ vs H Q E, sp vs H Q E → (t_law_any_plain K A E sp_law_draw sp_law_lot sp_law_pick) { nx := fun _ H' => Q .non H', rt := Q } (start ["pen", "many", "kinds", "one", "size", "word", "house", "link"] vs) H) : FnOk P w K mg base CX0 (k + 1) f fd ["pen"] sp := by
  have nd := sc_law_any_plain.nd
  refine F.ok sc_law_any_plain len fun cdv A' outer s H vs Q E hr h => ⟨t_law_any_plain K A E sp_law_draw sp_law_lot sp_law_pick, PSs.nox ?_, ok vs H Q E h⟩
  exact (pss_cons (ps_set (i := 1) nd rfl (by first | exact Or.inl rfl | exact Or.inr rfl) (pe_op op_add pe_int (pe_cal c_law_draw hr pass0 (pa_cons (pv 0) (pa_cons pe_int pa_nil))))) (pss_cons (ps_set (i := 2) nd rfl (by first | exact Or.inl rfl | exact Or.inr rfl) (pe_lst pa_nil)) (pss_cons (ps_for PassesOwn.never rfl (pi_range1 (by rfl) B.range (pa_cons (pv 1) pa_nil)) (pg_name (i := 3) nd rfl (by first | exact Or.inl rfl | exact Or.inr rfl)) (pss_cons (ps_set (i := 4) nd rfl (by first | exact Or.inl rfl | exact Or.inr rfl) (pe_op op_add pe_int (pe_cal c_law_draw hr pass0 (pa_cons (pv 0) (pa_cons pe_int pa_nil))))) (pss_one (ps_expr (pe_bm PySem.F.plainAttrs_list PySem.F.slot_list_append PySem.F.type_list_append mt_append (pv 2) (pa_cons (pe_tup (pa_cons (pv 4) (pa_cons (pe_tupOf B (pe_lc (own := [("link", 7)]) (g := (gName 7)) (tt := tYes) rfl nd (pi_range1 (by rfl) B.range (pa_cons (pe_cal c_law_draw hr pass0 (pa_cons (pv 0) (pa_cons (pe_op op_add (pe_min BH rfl (pa_cons (pv 4) (pa_cons pe_int pa_nil))) pe_int) pa_nil))) pa_nil)) (blkOk_by (N := ["pen", "many", "kinds", "one", "size", "word", "house", "link"]) (sc := defScope st_law_any_plain) (by decide +kernel)) (fun _ _ _ _ _ => (pg_name (i := 7) nd rfl (by first | exact Or.inl rfl | exact Or.inr rfl))) (fun _ _ _ _ _ => pts_nil) (fun _ _ _ _ _ => (pe_tupOf B (pe_cal c_law_lot hr pass0 (pa_cons (pv 0) (pa_cons (pe_listRg rfl (by rfl) B.list (prg_1 (by rfl) B.range (pv 1))) (pa_cons pe_int pa_nil)))))))) pa_nil))) pa_nil)))))) (pss_cons (ps_set (i := 5) nd rfl (by first | exact Or.inl rfl | exact Or.inr rfl) (pe_cal c_law_pick hr pass0 (pa_cons (pv 0) (pa_cons (pe_lst (pa_cons pe_str (pa_cons pe_str (pa_cons pe_str (pa_cons pe_str (pa_cons pe_str pa_nil)))))) pa_nil)))) (pss_cons (ps_set (i := 6) nd rfl (by first | exact Or.inl rfl | exact Or.inr rfl) (pe_disp (pps_cons pe_str (pe_op op_add pe_int (pe_cal c_law_draw hr pass0 (pa_cons (pv 0) (pa_cons pe_int pa_nil)))) (pps_cons pe_str (pe_tupOf B (pv 2)) (pps_cons pe_str (pe_op op_add pe_int (pe_cal c_law_draw hr pass0 (pa_cons (pv 0) (pa_cons pe_int pa_nil)))) (pps_cons pe_str (pe_op op_add pe_int (pe_cal c_law_draw hr pass0 (pa_cons (pv 0) (pa_cons pe_int pa_nil)))) (pps_cons pe_str pe_str (pps_cons pe_str pe_int (pps_cons pe_str pe_str (pps_cons pe_str pe_bl pps_nil)))))))) (by rfl) (by rfl) (fun z => by cases z) (by decide))) (pss_cons (ps_dput (hu_of hr) (pv 6) pe_str (pe_tupOf B (pe_op op_cat (pe_cal c_law_lot hr pass0 (pa_cons (pv 0) (pa_cons (pe_lst (pa_cons pe_str (pa_cons pe_str pa_nil))) (pa_cons pe_int pa_nil)))) (pe_lst (pa_cons pe_str pa_nil)))) rfl) (pss_cons (ps_dput (hu_of hr) (pv 6) pe_str (pe_tup (pa_cons (pv 5) pa_nil)) rfl) (pss_cons (ps_if (pt_cmpR op_in_seq (pv 5) (pe_tup (pa_cons pe_str (pa_cons pe_str (pa_cons pe_str pa_nil)))) (by rfl)) (pss_one (ps_expr (pe_bm PySem.F.plainAttrs_dict PySem.F.slot_dict_update PySem.F.type_dict_update mt_dupdate (pv 6) (pa_cons (pe_disp (pps_cons pe_str (pe_cal c_law_pick hr pass0 (pa_cons (pv 0) (pa_cons (pe_lst (pa_cons pe_str (pa_cons pe_str (pa_cons pe_str (pa_cons pe_str (pa_cons pe_str (pa_cons pe_str pa_nil))))))) pa_nil))) (pps_cons pe_str (pe_cal c_law_pick hr pass0 (pa_cons (pv 0) (pa_cons (pe_lst (pa_cons pe_str (pa_cons pe_str pa_nil))) pa_nil))) pps_nil)) (by rfl) (by rfl) (fun z => by cases z) (by decide)) pa_nil)))) pss_nil) (pss_cons (ps_if (pt_cmpR (op_eqD hr.units) (pv 5) pe_str (nomark _)) (pss_one (ps_dput (hu_of hr) (pv 6) pe_str (pe_tup (pa_cons (pv 5) (pa_cons (pe_cal c_law_pick hr pass0 (pa_cons (pv 0) (pa_cons (pe_lst (pa_cons pe_non (pa_cons pe_int (pa_cons pe_int (pa_cons pe_int pa_nil))))) pa_nil))) (pa_cons (pe_cal c_law_pick hr pass0 (pa_cons (pv 0) (pa_cons (pe_lst (pa_cons pe_str (pa_cons pe_str pa_nil))) pa_nil))) pa_nil)))) rfl)) pss_nil) (pss_cons (ps_if (pt_cmpR (op_eqD hr.units) (pv 5) pe_str (nomark _)) (pss_cons (ps_dput (hu_of hr) (pv 6) pe_str (pe_tup (pa_cons (pv 5) (pa_cons (pe_tupOf B (pe_cal c_law_lot hr pass0 (pa_cons (pv 0) (pa_cons (pe_lst (pa_cons pe_str (pa_cons pe_str (pa_cons pe_str (pa_cons pe_str (pa_cons pe_str pa_nil)))))) (pa_cons pe_int pa_nil))))) pa_nil))) rfl) (pss_one (ps_dput (hu_of hr) (pv 6) pe_str (pe_cal c_law_pick hr pass0 (pa_cons (pv 0) (pa_cons (pe_lst (pa_cons pe_non (pa_cons pe_int (pa_cons pe_int (pa_cons pe_int (pa_cons pe_int (pa_cons pe_int (pa_cons pe_int (pa_cons pe_int pa_nil))))))))) pa_nil))) rfl))) pss_nil) (pss_cons (ps_if (PW.pt (pw_and (pt_cmpR op_in_seq (pv 5) (pe_tup (pa_cons pe_str (pa_cons pe_str pa_nil))) (by rfl)) (pw_and1 (pt_cmpR (op_eqD hr.units) (pe_dget (hu_of hr) (pv 6) pe_str (fun _ _ => rfl)) pe_str (nomark _))))) (pss_one (ps_dput (hu_of hr) (pv 6) pe_str (pe_cmpR (op_eqD hr.units) (pe_cal c_law_draw hr pass0 (pa_cons (pv 0) (pa_cons pe_int pa_nil))) pe_int (nomark _)) rfl)) pss_nil) (pss_cons (ps_if (pt_cmpR (op_eqD hr.units) (pv 5) pe_str (nomark _)) (pss_one (ps_expr (pe_bm PySem.F.plainAttrs_dict PySem.F.slot_dict_update PySem.F.type_dict_update mt_dupdate (pv 6) (pa_cons (pe_disp (pps_cons pe_str (pe_tup (pa_cons (pv 5) (pa_cons (pe_op op_add pe_int (pe_cal c_law_draw hr pass0 (pa_cons (pv 0) (pa_cons (pe_op op_sub (pe_dget (hu_of hr) (pv 6) pe_str (fun _ _ => rfl)) pe_int) pa_nil)))) (pa_cons (pe_cal c_law_pick hr pass0 (pa_cons (pv 0) (pa_cons (pe_lst (pa_cons pe_str (pa_cons pe_str (pa_cons pe_str pa_nil)))) pa_nil))) pa_nil)))) (pps_cons pe_str (pe_cal c_law_pick hr pass0 (pa_cons (pv 0) (pa_cons (pe_lst (pa_cons pe_str (pa_cons pe_str (pa_cons pe_str (pa_cons pe_str pa_nil))))) pa_nil))) pps_nil)) (by rfl) (by rfl) (fun z => by cases z) (by decide)) pa_nil)))) pss_nil) (pss_one (ps_ret (pv 6)))))))))))))))
theorem wk_law_whole_house {k : Nat} {sp : Sp} {sp_House___init__ : Sp} (c_House___init__ : Ini P w K mg base (L2.CX P w) k A.cHouse ["self", "cells", "kinds", "registers", "live", "rooms", "collector", "pace", "need", "slide", "asked"] sp_House___init__) {f : Addr} {fd : FuncData} {dvs : List V} (F : FnP K "_law_whole_house" "_law_whole_house" st_law_whole_house dvs f fd) (len : ∀ vs H Q E, sp vs H Q E → vs.length = 1) (ok : ∀ vs H Q E, sp vs H Q E → (t_law_whole_house K A E sp_House___init__) { nx := fun _ H' => Q .non H', rt := Q } (start ["plain", "rest", "part"] vs) H) : FnOk P w K mg base CX0 (k + 1) f fd ["plain"] sp := by
  have nd := sc_law_whole_house.nd
  refine F.ok sc_law_whole_house len fun cdv A' outer s H vs Q E hr h => ⟨t_law_whole_house K A E sp_House___init__, PSs.nox ?_, ok vs H Q E h⟩
  exact (pss_cons (ps_setLc (i := 1) (own := [("part", 2)]) (g := (gName 2)) (tt := tYes) rfl nd rfl rfl (sw_true rfl rfl rfl (by decide +kernel)) (pi_seq (pe_tup (pa_cons pe_str (pa_cons pe_str (pa_cons pe_str (pa_cons pe_str (pa_cons pe_str (pa_cons pe_str pa_nil)))))))) (blkOk_by (N := ["plain", "rest", "part"]) (sc := defScope st_law_whole_house) (by decide +kernel)) (fun _ _ _ _ _ => (pg_name (i := 2) nd rfl (by first | exact Or.inl rfl | exact Or.inr rfl))) (fun _ _ _ _ _ => pts_nil) (fun _ _ _ _ _ => (pe_dget (hu_of hr) (pv 0) (pv 2) (fun _ _ => rfl)))) (pss_one (ps_ret (pe_ini c_House___init__ hr (passE LamX.takes0 fun _ _ _ _ h => h) T.gHouse (pa_cons (pe_dget (hu_of hr) (pv 0) pe_str (fun _ _ => rfl)) (pa_cons (pe_dget (hu_of hr) (pv 0) pe_str (fun _ _ => rfl)) (pa_cons (pe_dget (hu_of hr) (pv 0) pe_str (fun _ _ => rfl)) (pa_cons (pe_dget (hu_of hr) (pv 0) pe_str (fun _ _ => rfl)) (pa_cons (pe_ix ix_seq (pv 1) pe_int (fun _ _ => rfl)) (pa_cons (pe_ix ix_seq (pv 1) pe_int (fun _ _ => rfl)) (pa_cons (pe_ix ix_seq (pv 1) pe_int (fun _ _ => rfl)) (pa_cons (pe_ix ix_seq (pv 1) pe_int (fun _ _ => rfl)) (pa_cons (pe_ix ix_seq (pv 1) pe_int (fun _ _ => rfl)) (pa_cons (pe_ix ix_seq (pv 1) pe_int (fun _ _ => rfl)) pa_nil))))))))))))))
theorem wk_law_house_lines {k : Nat} {sp : Sp}  {f : Addr} {fd : FuncData} {dvs : List V} (F : FnP K "_law_house_lines" "_law_house_lines" st_law_house_lines dvs f fd) (len : ∀ vs H Q E, sp vs H Q E → vs.length = 1) (ok : ∀ vs H Q E, sp vs H Q E → (t_law_house_lines K A E) { nx := fun _ H' => Q .non H', rt := Q } (start ["plain", "lines", "size", "links", "word", "rest", "kind", "link", "part"] vs) H) : FnOk P w K mg base CX0 (k + 1) f fd ["plain"] sp := by
  have nd := sc_law_house_lines.nd
  refine F.ok sc_law_house_lines len fun cdv A' outer s H vs Q E hr h => ⟨t_law_house_lines K A E, PSs.nox ?_, ok vs H Q E h⟩
  exact (pss_cons (ps_set (i := 1) nd rfl (by first | exact Or.inl rfl | exact Or.inr rfl) (pe_lst (pa_cons (pe_lst (pa_cons pe_str (pa_cons (pe_strI B (pe_dget (hu_of hr) (pv 0) pe_str (fun _ _ => rfl))) pa_nil))) pa_nil))) (pss_cons (ps_for PassesOwn.never rfl (pi_seq (pe_dget (hu_of hr) (pv 0) pe_str (fun _ _ => rfl))) (pg_tup rfl (pgs_cons (pg_name (i := 2) nd rfl (by first | exact Or.inl rfl | exact Or.inr rfl)) (pgs_cons (pg_name (i := 3) nd rfl (by first | exact Or.inl rfl | exact Or.inr rfl)) pgs_nil))) (pss_one (ps_expr (pe_bm PySem.F.plainAttrs_list PySem.F.slot_list_append PySem.F.type_list_append mt_append (pv 1) (pa_cons (pe_op op_cat (pe_lst (pa_cons pe_str (pa_cons (pe_strI B (pv 2)) pa_nil))) (pe_sumL BH rfl (pa_cons (pe_lc (own := [("link", 7)]) (g := (gName 7)) (tt := tYes) rfl nd (pi_seq (pv 3)) (blkOk_by (N := ["plain", "lines", "size", "links", "word", "rest", "kind", "link", "part"]) (sc := defScope st_law_house_lines) (by decide +kernel)) (fun _ _ _ _ _ => (pg_name (i := 7) nd rfl (by first | exact Or.inl rfl | exact Or.inr rfl))) (fun _ _ _ _ _ => pts_nil) (fun _ _ _ _ _ => (pe_op op_cat (pe_lst (pa_cons pe_str pa_nil)) (pe_lc (own := [("kind", 6)]) (g := (gName 6)) (tt := tYes) rfl nd (pi_seq (pv 7)) (blkOk_any (N := ["plain", "lines", "size", "links", "word", "rest", "kind", "link", "part"]) (by decide +kernel)) (fun _ _ _ _ _ => (pg_name (i := 6) nd rfl (by first | exact Or.inl rfl | exact Or.inr rfl))) (fun _ _ _ _ _ => pts_nil) (fun _ _ _ _ _ => (pe_strI B (pv 6))))))) (pa_cons (pe_lst pa_nil) pa_nil)))) pa_nil))))) (pss_cons (ps_set (i := 1) nd rfl (by first | exact Or.inl rfl | exact Or.inr rfl) (pe_op op_cat (pv 1) (pe_lst (pa_cons (pe_lst (pa_cons pe_str (pa_cons (pe_strI B (pe_dget (hu_of hr) (pv 0) pe_str (fun _ _ => rfl))) pa_nil))) (pa_cons (pe_lst (pa_cons pe_str (pa_cons (pe_strI B (pe_dget (hu_of hr) (pv 0) pe_str (fun _ _ => rfl))) pa_nil))) (pa_cons (pe_lst (pa_cons pe_str (pa_cons (pe_dget (hu_of hr) (pv 0) pe_str (fun _ _ => rfl)) pa_nil))) pa_nil)))))) (pss_cons (ps_par (i := 4) (j := 5) (by rfl) nd rfl rfl (by decide) rfl rfl (pa_cons (pe_ix ix_seq (pe_dget (hu_of hr) (pv 0) pe_str (fun _ _ => rfl)) pe_int (fun _ _ => rfl)) (pa_cons (pe_listOf B (pe_slice sl_any (pe_dget (hu_of hr) (pv 0) pe_str (fun _ _ => rfl)) (po_some pe_int) po_none)) pa_nil)) (by rfl)) (pss_cons (ps_if (pt_cmpR (op_eqD hr.units) (pv 4) pe_str (nomark _)) (pss_one (ps_set (i := 5) nd rfl (by first | exact Or.inl rfl | exact Or.inr rfl) (pe_listOf B (pe_ix ix_seq (pv 5) pe_int (fun _ _ => rfl))))) pss_nil) (pss_cons (ps_expr (pe_bm PySem.F.plainAttrs_list PySem.F.slot_list_append PySem.F.type_list_append mt_append (pv 1) (pa_cons (pe_op op_cat (pe_lst (pa_cons pe_str (pa_cons (pv 4) pa_nil))) (pe_lc (own := [("part", 8)]) (g := (gName 8)) (tt := tYes) rfl nd (pi_seq (pv 5)) (blkOk_by (N := ["plain", "lines", "size", "links", "word", "rest", "kind", "link", "part"]) (sc := defScope st_law_house_lines) (by decide +kernel)) (fun _ _ _ _ _ => (pg_name (i := 8) nd rfl (by first | exact Or.inl rfl | exact Or.inr rfl))) (fun _ _ _ _ _ => pts_nil) (fun _ _ _ _ _ => (pe_ifExp (pt_cmpR op_isN (pv 8) pe_non (nomark _)) pe_str (pe_strIS B (pv 8)))))) pa_nil))) (pss_cons (ps_set (i := 1) nd rfl (by first | exact Or.inl rfl | exact Or.inr rfl) (pe_op op_cat (pv 1) (pe_lst (pa_cons (pe_lst (pa_cons pe_str (pa_cons (pe_ifExp (pt_cmpR op_isN (pe_dget (hu_of hr) (pv 0) pe_str (fun _ _ => rfl)) pe_non (nomark _)) pe_str (pe_strI B (pe_dget (hu_of hr) (pv 0) pe_str (fun _ _ => rfl)))) pa_nil))) (pa_cons (pe_lst (pa_cons pe_str (pa_cons (pe_dget (hu_of hr) (pv 0) pe_str (fun _ _ => rfl)) pa_nil))) (pa_cons (pe_lst (pa_cons pe_str (pa_cons (pe_ifExp (pt_val (pe_dget (hu_of hr) (pv 0) pe_str (fun _ _ => rfl))) pe_str pe_str) pa_nil))) pa_nil)))))) (pss_one (ps_ret (pe_op op_cat (pv 1) (pe_lst (pa_cons (pe_op op_cat (pe_lst (pa_cons pe_str pa_nil)) (pe_listOf B (pe_dget (hu_of hr) (pv 0) pe_str (fun _ _ => rfl)))) pa_nil))))))))))))
end
end Nv
set_option Elab.async false
set_option linter.all false
set_option maxRecDepth 100000
set_option maxHeartbeats 4000000
namespace Nv
open PySem PySem.Spec PyProof.Rows L2 StX NvZ LamX
abbrev st_law : Stmt := PySem.Challenge.pw_nevergone_k91_texts_of_houses_written_an.main.body.getD 81 (.Pass ⟨0, 0, 0, 0⟩)
theorem sc_law : FnScope ["script", "pen", "before", "turn", "plain", "house", "due", "again", "told", "odd", "line", "part"] ["script"] (defScope st_law) := ⟨rfl, rfl, rfl, by decide +kernel, rfl, by decide +kernel, by decide +kernel⟩
section
variable {A : Ads} {P : Program} {w : World} {K : PySem.W.Frag} {mg : Str → Option Value} {base : Heap} (B : Blt mg) (BH : BltH mg) (T : Tx A P w K mg)
include B BH T
theorem ws_law {k : Nat} {f : Addr} {cdv : Value} {A' : Around} {outer : List Env} {s : Shared} {H : Hp} {T0 : List (Addr × Str)} {TT : (XK → Hp → VK → Prop) → Hp → VK → Prop} {sp_law_pen : Sp} {sp_law_any_plain : Sp} {sp_law_whole_house : Sp} {sp_law_house_lines : Sp} {sp_house_text : Sp} {sp_read_house : Sp} {sp_law_pick : Sp} {sp_eqH : Sp} (c_law_pen : Cal P w K mg base CX0 k "_law_pen" ["script"] sp_law_pen) (c_law_any_plain : Cal P w K mg base CX0 k "_law_any_plain" ["pen"] sp_law_any_plain) (c_law_whole_house : Cal P w K mg base CX0 k "_law_whole_house" ["plain"] sp_law_whole_house) (c_law_house_lines : Cal P w K mg base CX0 k "_law_house_lines" ["plain"] sp_law_house_lines) (c_house_text : Cal P w K mg base (L2.CX P w) k "house_text" ["house"] sp_house_text) (c_house_text_by_house : CalK P w K mg base (L2.CX P w) k "house_text" "house" ["house"] [] sp_house_text) (c_read_house : Cal P w K mg base (L2.CX P w) k "read_house" ["text"] sp_read_house) (c_read_house_by_text : CalK P w K mg base (L2.CX P w) k "read_house" "text" ["text"] [] sp_read_house) (c_law_pick : Cal P w K mg base CX0 k "_law_pick" ["pen", "some"] sp_law_pick) (c_eqH : CmpO P w K mg base k A.cHouse sp_eqH)  (hr : Room k ((cxOf CX0 P w K mg base ["script", "pen", "before", "turn", "plain", "house", "due", "again", "told", "odd", "line", "part"] "law" (defScope st_law) f cdv A' outer s H E0).nox).A) (hG : ((cxOf CX0 P w K mg base ["script", "pen", "before", "turn", "plain", "house", "due", "again", "told", "odd", "line", "part"] "law" (defScope st_law) f cdv A' outer s H E0).nox).A.guards = some [])
  (hL : ∀ {params : Arguments} {body : Expr} {scope : Scope} {t : XK → TE} {p lpos pos : Pos} {ks : List Int}, params.kw_defaults = [] → NvL.Dfl params.defaults ks → NvL.LamB params body scope ks → NvL.LamS3 ["script", "pen", "before", "turn", "plain", "house", "due", "again", "told", "odd", "line", "part"] (defScope st_law) scope → (∀ (A0 : Around) (o0 : List Env) (s0 : Shared) (H0 : Hp) (E : XK) (f0 c0 : Addr), Room k (A0.deeper (lamEnv (cxOf CX0 P w K mg base ["script", "pen", "before", "turn", "plain", "house", "due", "again", "told", "odd", "line", "part"] "law" (defScope st_law) f cdv A' outer s H E0).nox scope s0.heap.objs.size f0 c0)) → PE (lamCx (cxOf CX0 P w K mg base ["script", "pen", "before", "turn", "plain", "house", "due", "again", "told", "odd", "line", "part"] "law" (defScope st_law) f cdv A' outer s H E0).nox A0 o0 s0 H0 E scope f0 c0) body (t E)) → PE (cxOf CX0 P w K mg base ["script", "pen", "before", "turn", "plain", "house", "due", "again", "told", "odd", "line", "part"] "law" (defScope st_law) f cdv A' outer s H E0).nox (.Call (.Name "_law_heard" p) [.Lambda params body scope lpos] [] pos) (tLam T0 TT t)) : PSs (cxOf CX0 P w K mg base ["script", "pen", "before", "turn", "plain", "house", "due", "again", "told", "odd", "line", "part"] "law" (defScope st_law) f cdv A' outer s H E0).nox (defBody st_law) (t_law K A T0 TT sp_law_pen sp_law_any_plain sp_law_whole_house sp_law_house_lines sp_house_text sp_read_house sp_law_pick sp_eqH) := by
  have nd := sc_law.nd
  exact (pss_cons (ps_set (i := 1) nd rfl (by first | exact Or.inl rfl | exact Or.inr rfl) (pe_cal c_law_pen hr pass0 (pa_cons (pv 0) pa_nil))) (pss_cons (ps_set (i := 2) nd rfl (by first | exact Or.inl rfl | exact Or.inr rfl) pe_non) (pss_cons (ps_for PassesOwn.never rfl (pi_range1 (by rfl) B.range (pa_cons pe_int pa_nil)) (pg_name (i := 3) nd rfl (by first | exact Or.inl rfl | exact Or.inr rfl)) (pss_cons (ps_set (i := 4) nd rfl (by first | exact Or.inl rfl | exact Or.inr rfl) (pe_cal c_law_any_plain hr pass0 (pa_cons (pv 1) pa_nil))) (pss_cons (ps_set (i := 5) nd rfl (by first | exact Or.inl rfl | exact Or.inr rfl) (pe_cal c_law_whole_house hr pass0 (pa_cons (pv 4) pa_nil))) (pss_cons (ps_set (i := 6) nd rfl (by first | exact Or.inl rfl | exact Or.inr rfl) (pe_join pe_str (pe_lc (own := [("line", 10)]) (g := (gName 10)) (tt := tYes) rfl nd (pi_seq (pe_cal c_law_house_lines hr pass0 (pa_cons (pv 4) pa_nil))) (blkOk_by (N := ["script", "pen", "before", "turn", "plain", "house", "due", "again", "told", "odd", "line", "part"]) (sc := defScope st_law) (by decide +kernel)) (fun _ _ _ _ _ => (pg_name (i := 10) nd rfl (by first | exact Or.inl rfl | exact Or.inr rfl))) (fun _ _ _ _ _ => pts_nil) (fun _ _ _ _ _ => (pe_join pe_str (pv 10)))))) (pss_cons (ps_if (PW.pt (pw_or (pt_cmpR (op_neD hr.units) (pe_cal c_house_text hr (passE LamX.takes0 fun _ _ _ _ h => h) (pa_cons (pv 5) pa_nil)) (pv 6) (nomark _)) (pw_or1 (pt_cmpR (op_neD hr.units) (pe_calK c_house_text_by_house hr (passE LamX.takes0 fun _ _ _ _ h => h) (pk_cons (pv 5) pk_nil)) (pv 6) (nomark _))))) (pss_one (ps_ret pe_bl)) pss_nil) (pss_cons (ps_set (i := 7) nd rfl (by first | exact Or.inl rfl | exact Or.inr rfl) (pe_cal c_read_house hr (passE LamX.takes0 fun _ _ _ _ h => h) (pa_cons (pv 6) pa_nil))) (pss_cons (ps_if (PW.pt (pw_or (pt_cmpR (op_neH c_eqH hr) (pv 7) (pv 5) (nomark _)) (pw_or (pt_cmpR (op_neH c_eqH hr) (pe_calK c_read_house_by_text hr (passE LamX.takes0 fun _ _ _ _ h => h) (pk_cons (pv 6) pk_nil)) (pv 5) (nomark _)) (pw_or1 (pt_cmpR (op_neD hr.units) (pe_cal c_house_text hr (passE LamX.takes0 fun _ _ _ _ h => h) (pa_cons (pv 7) pa_nil)) (pv 6) (nomark _)))))) (pss_one (ps_ret pe_bl)) pss_nil) (pss_cons (ps_set (i := 8) nd rfl (by first | exact Or.inl rfl | exact Or.inr rfl) (pe_lst (pa_cons (pe_fld (pv 7) rfl) (pa_cons (pe_fld (pv 7) rfl) (pa_cons (pe_fld (pv 7) rfl) (pa_cons (pe_fld (pv 7) rfl) (pa_cons (pe_fld (pv 7) rfl) (pa_cons (pe_fld (pv 7) rfl) (pa_cons (pe_fld (pv 7) rfl) (pa_cons (pe_fld (pv 7) rfl) (pa_cons (pe_fld (pv 7) rfl) (pa_cons (pe_fld (pv 7) rfl) pa_nil)))))))))))) (pss_cons (ps_if (pt_cmpR op_ne (pe_reprD BH hG hr (pv 8)) (pe_reprD BH hG hr (pe_lc (own := [("part", 11)]) (g := (gName 11)) (tt := tYes) rfl nd (pi_seq (pe_tup (pa_cons pe_str (pa_cons pe_str (pa_cons pe_str (pa_cons pe_str (pa_cons pe_str (pa_cons pe_str (pa_cons pe_str (pa_cons pe_str (pa_cons pe_str (pa_cons pe_str pa_nil)))))))))))) (blkOk_by (N := ["script", "pen", "before", "turn", "plain", "house", "due", "again", "told", "odd", "line", "part"]) (sc := defScope st_law) (by decide +kernel)) (fun _ _ _ _ _ => (pg_name (i := 11) nd rfl (by first | exact Or.inl rfl | exact Or.inr rfl))) (fun _ _ _ _ _ => pts_nil) (fun _ _ _ _ _ => (pe_dget (hu_of hr) (pv 4) (pv 11) (fun _ _ => rfl))))) (nomark _)) (pss_one (ps_ret pe_bl)) pss_nil) (pss_cons (ps_if (PW.pt (pw_and (pt_cmpR op_notN (pv 2) pe_non (nomark _)) (pw_and1 (pt_cmpR (op_neD hr.units) (pe_cmpR (op_eqH c_eqH hr) (pv 2) (pv 5) (nomark _)) (pe_cmpR (op_eqD hr.units) (pe_cal c_house_text hr (passE LamX.takes0 fun _ _ _ _ h => h) (pa_cons (pv 2) pa_nil)) (pv 6) (nomark _)) (nomark _))))) (pss_one (ps_ret pe_bl)) pss_nil) (pss_cons (ps_set (i := 2) nd rfl (by first | exact Or.inl rfl | exact Or.inr rfl) (pv 5)) (pss_cons (ps_set (i := 9) nd rfl (by first | exact Or.inl rfl | exact Or.inr rfl) (pe_cal c_law_pick hr pass0 (pa_cons (pv 1) (pa_cons (pe_lst (pa_cons pe_non (pa_cons pe_int (pa_cons (pv 6) (pa_cons (pv 4) (pa_cons (pe_tup (pa_cons (pv 5) pa_nil)) pa_nil)))))) pa_nil)))) (pss_one (ps_if (pt_cmpR (op_neD hr.units) (hL (ks := []) rfl (by first | exact .nil | exact .one _ _ _) (by first | exact ⟨fun _ _ _ _ _ _ _ => (by rfl), fun _ z => (by cases z)⟩ | exact ⟨fun z => (by cases z), fun _ _ => ⟨"a1", (by rfl), fun _ _ _ _ _ _ _ => ⟨_, (by rfl), fun _ => (by rfl)⟩⟩⟩) (NvL.lamS3_by (by decide +kernel)) (fun A0 o0 s0 H0 E f0 c0 hr => (pe_cal c_house_text hr (passE (takes_of rfl rfl rfl rfl) fun _ _ _ _ h => h) (pa_cons (pv 9) pa_nil)))) (pe_tup (pa_cons pe_str (pa_cons pe_str pa_nil))) (nomark _)) (pss_one (ps_ret pe_bl)) pss_nil)))))))))))))) (pss_one (ps_ret pe_bl)))))
end
end Nv
set_option Elab.async false
set_option linter.all false
set_option maxRecDepth 100000
set_option maxHeartbeats 4000000
/-! Promises of the readers: taken_house, read_house. -/
namespace Nv
open PySem PySem.Spec PyProof.Rows L2 StX NvZ
section
variable {K : PySem.W.Frag} {A : Ads} {S S' : Addr → Prop} {σ : L2.St} {H H' H1 : Hp} {E : XK} {q p : Addr} {ls : List (List Str)} {l a : Nat}
/-! ### finish -/
def spFinish (K : PySem.W.Frag) (A : Ads) : Sp := fun vs H Q _ => ∃ S q ls l, vs = [.ref q] ∧ Mem S H ∧ ScanAt K A S H q ls l 0 ∧ l = ls.length ∧ ∀ H', Ex H H' → Q .non H'
theorem pr_finish (spS : Sp) (vs : List V) (H : Hp) (Q : VK) (E : XK) (hh : spFinish K A vs H Q E) : t_Scan_finish K A E (spOver K A) spS { nx := fun _ H' => Q .non H', rt := Q } (start ["self"] vs) H := by
  obtain ⟨S, q, ls, l, rfl, m, hs, hl, k⟩ := hh
  refine ts_if (eb_not (eb_B (ev_over (i := 0) (σ := start ["self"] [.ref q]) m rfl hs))) fun H1 e1 => ?_
  rw [decide_eq_true hl, if_neg (by decide)]
  exact k H1 e1
/-! ### the lines of a house -/
theorem hl_len {h : Hs} : (houseL h).length = h.kinds.length + 9 := by
  show (h.kinds.map kindW ++ tailL h).length + 1 = _
  rw [List.length_append, List.length_map]
  show h.kinds.length + 8 + 1 = _
  omega
theorem hl_zero {h : Hs} : (houseL h).getD 0 [] = [("cells" : Str), istr h.cells] := rfl
theorem hl_kind {h : Hs} {i : Nat} {k : Kind} (hk : h.kinds[i]? = some k) : (houseL h).getD (1 + i) [] = kindW k := by
  have hi := (List.getElem?_eq_some_iff.mp hk).1
  rw [List.getD_eq_getElem?_getD, Nat.add_comm]
  show ((h.kinds.map kindW ++ tailL h)[i]?).getD [] = _
  rw [List.getElem?_append_left (by rw [List.length_map]; exact hi), List.getElem?_map, hk]; rfl
theorem hl_tail {h : Hs} {n i : Nat} (hn : n = h.kinds.length) : (houseL h).getD (1 + n + i) [] = (tailL h).getD i [] := by
  subst hn
  rw [List.getD_eq_getElem?_getD, List.getD_eq_getElem?_getD, show 1 + h.kinds.length + i = (h.kinds.length + i) + 1 by omega]
  show ((h.kinds.map kindW ++ tailL h)[h.kinds.length + i]?).getD [] = _
  rw [List.getElem?_append_right (by rw [List.length_map]; omega), List.length_map, Nat.add_sub_cancel_left]
/-! ### taken_house -/
def spTHouse (K : PySem.W.Frag) (A : Ads) : Sp := fun vs H Q _ => ∃ S q h, vs = [.ref q] ∧ Mem S H ∧ ScanAt K A S H q (houseL h) 0 0 ∧ PartsOk h ∧ Fits h ∧ ∀ x H', Ex1 q H H' → H x = none → Mem S H' → HouseAt K A S H' x h → Q (.ref x) H'
theorem fix_kindR (k : Kind) : fixD (kindR k) = kindD k := by
  show D.tup [.int k.1, .tup (fixA (k.2.map linkR))] = D.tup [.int k.1, .tup (k.2.map intsD)]
  rw [fixA_map, List.map_map]
  refine congrArg (fun z => D.tup [.int k.1, .tup z]) (List.map_congr_left fun l _ => ?_)
  show D.tup (fixA (l.map D.int)) = D.tup (l.map D.int)
  rw [fixA_map, List.map_map]
  rfl
theorem fix_kindsR (ks : List Kind) : fixD (.lst (ks.map kindR)) = kindsD ks := by
  show D.tup (fixA (ks.map kindR)) = D.tup (ks.map kindD)
  rw [fixA_map, List.map_map]
  congr 1
  exact List.map_congr_left fun k _ => fix_kindR k
theorem fix_strsR (gs : List Str) : fixD (.lst (gs.map D.str)) = strsT gs := by
  show D.tup (fixA (gs.map D.str)) = D.tup (gs.map D.str)
  rw [fixA_map, List.map_map]
  rfl
theorem fix_collR (c : Cl) : fixD (collR c) = collD c := by
  cases c with
  | none => rfl
  | halves => rfl
  | counts m o => cases m <;> rfl
  | young n r => rfl
  | marks gs =>
    show D.tup [.str "marks", fixD (.lst (gs.map D.str))] = D.tup [.str "marks", strsT gs]
    rw [fix_strsR]
theorem yes_eq {te : TE} {b : Bool} (m : Mem S H) (he : EvD K S te σ H (.str (truthW b))) : EvD K S (tOp (rEqD K) te (tC (.str "yes"))) σ H (.bl b) := by
  have := ev_op m he (ev_str (i := "yes")) (r_eqD (d1 := .str (truthW b)) (d2 := .str "yes") (by cases b <;> decide +kernel) (by decide +kernel) (Nat.zero_le _) (Nat.zero_le _))
  rw [eqD_str] at this
  refine this.is ?_
  cases b
  · exact congrArg D.bl (decide_eq_false (show ¬ ("no" : Str) = "yes" by decide +kernel))
  · exact congrArg D.bl (decide_eq_true (show ("yes" : Str) = "yes" from rfl))
theorem pr_thouse (Y : Tp A K) (vs : List V) (H : Hp) (Q : VK) (E : XK) (hh : spTHouse K A vs H Q E) : t_taken_house K A E (spTKinds K A) (spAfter K A) (spTColl K A) (spTWord K A) (spPace K A) (spAsked K A) (spFinish K A) (spHInit K A) { nx := fun _ H' => Q .non H', rt := Q } (start ["scan", "cells", "kinds", "registers", "live", "rooms", "collector", "pace", "need", "slide", "asked"] vs) H := by
  obtain ⟨S, q, h, rfl, m, hs, P, F, k⟩ := hh
  show t_taken_house K A E (spTKinds K A) (spAfter K A) (spTColl K A) (spTWord K A) (spPace K A) (spAsked K A) (spFinish K A) (spHInit K A) { nx := fun _ H' => Q .non H', rt := Q } [some (.ref q), none, none, none, none, none, none, none, none, none, none] H
  have G := lines_g P
  have hlen := hl_len (h := h)
  obtain ⟨n, hn⟩ : ∃ n, n = h.kinds.length := ⟨_, rfl⟩
  have tl : ∀ i, (houseL h).getD (1 + n + i) [] = (tailL h).getD i [] := fun i => hl_tail hn
  -- cells
  refine ⟨_, rfl, S, q, houseL h, 0, "cells", 1, 12, h.cells, rfl, m, hs, G, by omega, rfl, by have := P.c1; omega, P.c2, P.c1, P.c2, fun v1 H1 x1 m1 s1 r1 => ?_⟩
  cases r1
  -- kinds
  refine ⟨_, rfl, S, q, houseL h, 1, h.kinds, rfl, m1, s1, G, by omega, fun i kd hk => hl_kind hk, ?_, P.k1, P.k2, P.kinds, fun v2 H2 x2 m2 s2 r2 => ⟨_, _, rfl, ?_⟩⟩
  · have := tl 0
    rw [hn] at this
    rw [show 1 + h.kinds.length = 1 + h.kinds.length + 0 from rfl, this]
    show isKL [("registers" : Str), istr h.registers] = false
    exact decide_eq_false (fun z => by injection z with z1 _; exact absurd z1 (show ¬ ("registers" : Str) = "kind" by decide +kernel))
  rw [← hn] at s2
  -- registers, live
  refine ⟨_, rfl, S, q, houseL h, 1 + n, "registers", 1, 4, h.registers, rfl, m2, s2, G, by omega, tl 0, by have := P.r1; omega, by have := P.r2; omega, P.r1, P.r2, fun v3 H3 x3 m3 s3 r3 => ?_⟩
  cases r3
  refine ⟨_, rfl, S, q, houseL h, 1 + n + 1, "live", 1, 12, h.live, rfl, m3, s3, G, by omega, tl 1, by have := P.l1; omega, P.l2, P.l1, P.l2, fun v4 H4 x4 m4 s4 r4 => ⟨_, _, rfl, ?_⟩⟩
  cases r4
  -- rooms, collector
  refine ⟨_, rfl, S, q, houseL h, 1 + n + 2, "rooms", .ref A.tROOMS, strsT lROOMS, lROOMS, h.rooms, rfl, m4, s4, G, by omega, tl 2, .tup (.inr Y.rooms) (rpA_strs _), seq_T, P.rooms, fun v5 H5 x5 m5 s5 r5 => ?_⟩
  cases r5
  refine ⟨_, rfl, S, q, houseL h, 1 + n + 3, h.coll, rfl, m5, s5, G, by omega, tl 3, P.coll, fun v6 H6 x6 m6 s6 r6 => ⟨_, _, rfl, ?_⟩⟩
  -- pace, need
  refine ⟨_, rfl, S, q, houseL h, 1 + n + 4, h.pace, rfl, m6, s6, G, by omega, tl 4, P.pace, fun v7 H7 x7 m7 s7 r7 => ?_⟩
  refine ⟨_, rfl, S, q, houseL h, 1 + n + 5, "need", .ref A.tNEEDS, strsT lNEEDS, lNEEDS, h.need, rfl, m7, s7, G, by omega, tl 5, .tup (.inr Y.needs) (rpA_strs _), seq_T, P.need, fun v8 H8 x8 m8 s8 r8 => ⟨_, _, rfl, ?_⟩⟩
  cases r8
  -- slide, asked
  have tin : truthW h.slide ∈ lTRUTHS := by cases h.slide <;> decide +kernel
  refine ⟨_, rfl, S, q, houseL h, 1 + n + 6, "slide", .ref A.tTRUTHS, strsT lTRUTHS, lTRUTHS, truthW h.slide, rfl, m8, s8, G, by omega, tl 6, .tup (.inr Y.truths) (rpA_strs _), seq_T, tin, fun v9 H9 x9 m9 s9 r9 => ?_⟩
  cases r9
  refine ⟨_, rfl, S, q, houseL h, 1 + n + 7, h.asked, rfl, m9, s9, G, by omega, tl 7, P.asked, P.swept, fun v10 H10 x10 m10 s10 r10 => ⟨_, _, rfl, ?_⟩⟩
  -- the end
  obtain ⟨sq, dxs, vls, g1, g2⟩ := id s10
  refine td_seq (show tMeth A.cScan "finish" (spFinish K A) [] E (tVar 0) tNil _ _ _ from ⟨_, rfl, q, dxs, _, rfl, g1, rfl, S, q, houseL h, 1 + n + 7 + 1, rfl, m10, s10, by omega, fun H11 e11 => ?_⟩)
  have m11 := m10.ex e11
  have up : ∀ {G1 G2 : Hp} {l1 : Nat}, ScanAt K A S G1 q (houseL h) l1 0 → Mem S G1 → Ex1 q G1 G2 → (∃ o, G2 q = some o) → Up K S G1 S G2 := fun s mm x ht => Up.exS (Ex1.exS mm s.1 x ht)
  have u3 := up s2 m2 x3 s3.there
  have u4 := up s3 m3 x4 s4.there
  have u5 := up s4 m4 x5 s5.there
  have u6 := up s5 m5 x6 s6.there
  have u7 := up s6 m6 x7 s7.there
  have u8 := up s7 m7 x8 s8.there
  have u9 := up s8 m8 x9 s9.there
  have u10 := up s9 m9 x10 s10.there
  have u11 : Up K S H10 S H11 := Up.ex m10 e11
  have r2' := u11 _ _ (u10 _ _ (u9 _ _ (u8 _ _ (u7 _ _ (u6 _ _ (u5 _ _ (u4 _ _ (u3 _ _ r2))))))))
  have r6' := u11 _ _ (u10 _ _ (u9 _ _ (u8 _ _ (u7 _ _ r6))))
  have r7' := u11 _ _ (u10 _ _ (u9 _ _ (u8 _ _ r7)))
  have r10' := u11 _ _ r10
  refine mk_house (S := S) (h := h) (ds := [.int h.cells, .lst (h.kinds.map kindR), .int h.registers, .int h.live, .str h.rooms, collR h.coll, optD h.pace, .str h.need, .bl h.slide, .lst (h.asked.map D.str)]) m11 ?_ (show Args [.int h.cells, .lst (h.kinds.map kindR), .int h.registers, .int h.live, .str h.rooms, collR h.coll, optD h.pace, .str h.need, .bl h.slide, .lst (h.asked.map D.str)] h from ⟨_, _, _, rfl, fix_kindsR _, fix_collR _, fix_strsR _⟩) P F fun x H12 e12 hx m12 hA => ?_
  · refine ea_cons m11 (ev_var (i := 1) m11 rfl (.int _)) (ea_cons m11 (ev_var (i := 2) m11 rfl r2') (ea_cons m11 (ev_var (i := 3) m11 rfl (.int _)) (ea_cons m11 (ev_var (i := 4) m11 rfl (.int _)) (ea_cons m11 (ev_var (i := 5) m11 rfl (.str _)) (ea_cons m11 (ev_var (i := 6) m11 rfl r6') (ea_cons m11 (ev_var (i := 7) m11 rfl r7') (ea_cons m11 (ev_var (i := 8) m11 rfl (.str _)) (ea_cons m11 (yes_eq m11 (ev_var (i := 9) m11 rfl (.str _))) (ea_cons m11 (ev_var (i := 10) m11 rfl r10') ea_nil)))))))))
  · have xx : Ex1 q H H11 := ((((((((((x1.trans x2).trans x3).trans x4).trans x5).trans x6).trans x7).trans x8).trans x9).trans x10)).trans (Ex.ex1 e11)
    refine k x H12 (xx.trans (Ex.ex1 e12)) ?_ m12 hA
    have nq : x ≠ q := fun z => by
      obtain ⟨o, ho⟩ := (s10.ex m10 e11).there
      rw [← z, hx] at ho; cases ho
    cases z : H x with
    | none => rfl
    | some o => rw [xx x o nq z] at hx; cases hx
/-! ### read_house -/
def spRHouse (K : PySem.W.Frag) (A : Ads) : Sp := fun vs H Q _ => ∃ S h, vs = [.str (houseT h)] ∧ Mem S H ∧ PartsOk h ∧ Fits h ∧ ∀ x H', Ex H H' → H x = none → HouseAt K A S H' x h → Q (.ref x) H'
theorem pr_rhouse (vs : List V) (H : Hp) (Q : VK) (E : XK) (hh : spRHouse K A vs H Q E) : t_read_house K A E (spTHouse K A) (spScanOf K A) { nx := fun _ H' => Q .non H', rt := Q } (start ["text"] vs) H := by
  obtain ⟨S, h, rfl, m, P, F, k⟩ := hh
  refine ⟨_, rfl, S, .str (houseT h), .str (houseT h), rfl, m, .str _, txt_okH P, fun q H1 e1 hq m1 s1 => ?_⟩
  rw [lines_back P] at s1
  refine ⟨plus S q, q, h, rfl, m1, s1, P, F, fun x H2 x2 hx m2 hA => ?_⟩
  have hxH : H x = none := by
    cases z : H x with
    | none => rfl
    | some o => rw [e1 _ _ z] at hx; cases hx
  obtain ⟨nS, dx, us, g1, g2⟩ := hA
  exact k x H2 (ex_new e1 hq x2) hxH ⟨fun z => nS (.inl z), dx, us, g1, g2.less fun _ z => .inl z⟩
end
end Nv
set_option Elab.async false
set_option linter.all false
set_option maxRecDepth 100000
set_option maxHeartbeats 4000000
/-! Own declarations of k94, for k91. -/
namespace Nv
open PySem PySem.Spec PyProof.Rows L2 StX NvZ
section
variable {K : PySem.W.Frag} {A : Ads} {S : Addr → Prop} {σ : L2.St} {H H' : Hp} {E : XK} {p : Addr} {n : Nat}
theorem sql_ex {a : Addr} {xs : List V} (e : Ex H H') (h : SqL K H a xs) : SqL K H' a xs := by
  rcases h with (h | ⟨o, h⟩) | h
  · exact .inl (.inl (e _ _ h))
  · exact .inl (.inr ⟨o, e _ _ h⟩)
  · exact .inr h
theorem ev_copy {a : Addr} {ns : List Int} {σ : L2.St} (m : Mem S H) (hσ : σ[0]? = some (some (.ref a))) (hw : ∀ v : V, (((wipe σ [1]).set 1 (some v)))[1]? = some (some v)) (hwp : ∀ v : V, wipe ((wipe σ [1]).set 1 (some v)) [1] = wipe σ [1]) (hs : SqL K H a (ns.map V.int)) (hl : ns.length ≤ 1000) :
    EvD K S (tLc (iSeq K (tVar 0)) (gName 1) tYes (tVar 1) [1]) σ H (.lst (ns.map D.int)) := fun H1 e1 Q q => by
  have hs1 := sql_ex e1 hs
  refine ⟨.ref a, hσ, .l a, rfl, ⟨_, hs1⟩, fun D hD => ?_⟩
  have m1 := m.ex e1
  refine lc_list (K := K) (a := a) (xs := ns.map V.int) (fun i H2 => Ex H1 H2 ∧ H2 D = some (.lst ((ns.map V.int).take i))) ⟨Evl.Ex.new hD, by rw [List.take_zero]; exact upd_same⟩ (fun i H2 _ h => sql_ex h.1 hs1) (fun i x H2 hx h => ?_) fun H2 h => ?_
  · refine ⟨hwp x, ?_⟩
    simp only [tYes, if_true]
    refine ⟨x, hw x, (ns.map V.int).take i, h.2, by rw [List.length_take, List.length_map, sizeLine_eq]; omega, fun b o hb => ?_, ?_⟩
    · rw [upd_ne (fun z => by rw [z, hD] at hb; cases hb)]
      exact h.1 _ _ hb
    · rw [upd_same, List.take_add_one, hx]; rfl
  · rw [List.length_map] at h
    have h2 : H2 D = some (.lst (ns.map V.int)) := by
      rw [h.2, List.take_of_length_le (by rw [List.length_map]; exact Nat.le_refl _)]
    exact q _ H2 h.1 (.lst ⟨h2, m1.new hD⟩ (rpA_ints ns))
theorem cut_to' {ds : List D} {n : Nat} : cutD ds none (some (n : Int)) = ds.take n := by
  unfold cutD
  rw [HT.sIx_nat, HT.sIx_none, List.drop_zero, Nat.sub_zero]
  by_cases h : n ≤ ds.length
  · rw [Nat.min_eq_left h]
  · rw [Nat.min_eq_right (by omega), List.take_of_length_le (Nat.le_refl _), List.take_of_length_le (by omega)]
def spPen (K : PySem.W.Frag) : Sp := fun vs H Q _ => ∃ (a : Addr) (ns : List Int), vs = [.ref a] ∧ SqL K H a (ns.map V.int) ∧ ns.length ≤ 1000 ∧ ∀ p H', Ex H H' → H p = none → Mem (fun b => b = p) H' → PenAt K (fun b => b = p) H' p 0 → Q (.ref p) H'
theorem pr_pen (vs : List V) (H : Hp) (Q : VK) (E : XK) (h : spPen K vs H Q E) : t_law_pen K A E { nx := fun _ H' => Q .non H', rt := Q } (start ["script", "cell"] vs) H := by
  obtain ⟨a, ns, rfl, hs, hl, k⟩ := h
  show tDisp _ [some (.ref a), none] H Q
  intro p hp
  have eN : Ex H (upd H p (.dK [])) := Evl.Ex.new hp
  have mP : Mem (fun b => b = p) (upd H p (.dK [])) := fun b s => by
    have s' : b = p := s
    rw [s']
    exact ⟨_, upd_same⟩
  have hc : EvD K (fun b => b = p) _ _ (upd H p (.dK [])) (.lst (cutD (ns.map D.int) none (some 80))) := ev_slX mP (.inl rfl) (ev_copy (σ := [some (.ref a), none]) mP rfl (fun _ => rfl) (fun _ => rfl) (sql_ex eN hs) hl) eo_none (eo_some (K := K) (S := fun b => b = p) (ev_int (i := 80)))
  refine hc _ (Evl.Ex.refl _) _ fun u H2 e2 r2 => ?_
  have hp2 := e2 _ _ (show (upd H p (.dK [])) p = some (.dK []) from upd_same)
  have hcut : cutD (ns.map D.int) none (some 80) = (ns.take 80).map D.int := by
    have := cut_to' (ds := ns.map D.int) (n := 80)
    rw [← List.map_take] at this
    exact this
  rw [hcut] at r2
  obtain ⟨ra, rfl⟩ : ∃ ra, u = .ref ra := by cases r2; exact ⟨_, rfl⟩
  refine ⟨hp2, penK ra 0 0, rfl, (by show 3 ≤ 15; decide), ?_⟩
  show Q (.ref p) (upd H2 p (.dK (penK ra 0 0)))
  have m2 := mP.ex e2
  refine k p _ (fun b o hb => ?_) hp (ExS.put m2 rfl).mem ⟨rfl, ra, ns.take 80, 0, 0, upd_same, r2.mono (ExS.put m2 rfl), by rw [List.length_take]; omega, Nat.le_refl _, by omega⟩
  rw [upd_ne (fun z => by rw [z, hp] at hb; cases hb)]
  exact e2 _ _ (eN _ _ hb)
def spPick (K : PySem.W.Frag) : Sp := fun vs H Q _ => ∃ S p n vw ds, vs = [.ref p, vw] ∧ Mem S H ∧ PenAt K S H p n ∧ n ≤ 1000000 ∧ Rp K S H vw (.lst ds) ∧ 1 ≤ ds.length ∧ ds.length ≤ 1000 ∧ ∀ d v H', d ∈ ds → Ex1 p H H' → Mem S H' → PenAt K S H' p (n + 1) → Rp K S H' v d → Q v H'
theorem PenAt.ex (m : Mem S H) (e : Ex H H') (h : PenAt K S H p n) : PenAt K S H' p n := by
  obtain ⟨s, ra, ns, a, r, g1, g2, g3⟩ := h
  exact ⟨s, ra, ns, a, r, e _ _ g1, g2.mono (.of m e), g3⟩
theorem PenAt.there (h : PenAt K S H p n) : ∃ o, H p = some o := by
  obtain ⟨s, ra, ns, a, r, g1, _⟩ := h
  exact ⟨_, g1⟩
theorem cx_draw {i : Nat} {te : TE} {most : Int} {Q : VK} (m : Mem S H) (hσ : σ[i]? = some (some (.ref p))) (hp : PenAt K S H p n) (hn : n ≤ 1000000) (h : EvD K S te σ H (.int most)) (h1 : 1 ≤ most) (h2 : most ≤ 1000)
    (q : ∀ k H', 0 ≤ k → k < most → Ex1 p H H' → Mem S H' → PenAt K S H' p (n + 1) → Q (.int k) H') : tCall (spDraw K) [] E0 (tCons (tVar i) (tCons te tNil)) σ H Q := ⟨_, hσ, h H (Evl.Ex.refl _) _ fun v H1 e1 r1 => by
  cases r1
  exact ⟨S, p, n, most, rfl, m.ex e1, hp.ex m e1, hn, h1, h2, fun k H' k0 k1 e mm pp => q k H' k0 k1 ((Ex.ex1 e1).trans e) mm pp⟩⟩
theorem pr_pick (vs : List V) (H : Hp) (Q : VK) (E : XK) (h : spPick K vs H Q E) : t_law_pick K A E (spDraw K) { nx := fun _ H' => Q .non H', rt := Q } (start ["pen", "some"] vs) H := by
  obtain ⟨S, p, n, vw, ds, rfl, m, hp, hn, hw, hl1, hl2, k⟩ := h
  show tOp (rIx K) (tVar 1) _ [some (.ref p), some vw] H Q
  refine ⟨vw, rfl, ?_⟩
  refine cx_draw (i := 0) m rfl hp hn (ev_cb (ea_cons m (ev_var (i := 1) m rfl hw) ea_nil) (ra_len rfl)) (by show (1 : Int) ≤ (ds.length : Nat); omega) (by show ((ds.length : Nat) : Int) ≤ 1000; omega) fun j H1 j0 j1 e1 m1 hp1 => ?_
  obtain ⟨jn, rfl⟩ : ∃ jn : Nat, j = jn := ⟨j.toNat, by omega⟩
  have hj : jn < ds.length := by
    have : ((jn : Nat) : Int) < (ds.length : Nat) := j1
    omega
  have hw1 := hw.mono (Ex1.exS m hp.1 e1 hp1.there)
  exact r_ixL (List.getElem?_eq_getElem hj) H1 (Evl.Ex.refl _) _ _ hw1 (.int _) Q fun v H2 e2 r2 => k _ v H2 (List.getElem_mem hj) (e1.trans (Ex.ex1 e2)) (m1.ex e2) (hp1.ex m1 e2) r2
end

section
variable {K : PySem.W.Frag} {A : Ads} {S : Addr → Prop} {σ : L2.St} {H H' : Hp} {E : XK} {p : Addr} {n : Nat}
theorem PenAt.le {m : Nat} (h : PenAt K S H p n) (hl : n ≤ m) : PenAt K S H p m := by
  obtain ⟨s, ra, ns, a, r, g1, g2, g3, g4, g5⟩ := h
  exact ⟨s, ra, ns, a, r, g1, g2, g3, by omega, g5⟩
theorem cx_pick {i : Nat} {te : TE} {ds : List D} {Q : VK} (m : Mem S H) (hσ : σ[i]? = some (some (.ref p))) (hp : PenAt K S H p n) (hn : n ≤ 1000000) (h : EvD K S te σ H (.lst ds)) (h1 : 1 ≤ ds.length) (h2 : ds.length ≤ 1000)
    (q : ∀ d v H', d ∈ ds → Ex1 p H H' → Mem S H' → PenAt K S H' p (n + 1) → Rp K S H' v d → Q v H') : tCall (spPick K) [] E0 (tCons (tVar i) (tCons te tNil)) σ H Q := ⟨_, hσ, h H (Evl.Ex.refl _) _ fun v H1 e1 r1 =>
  ⟨S, p, n, v, ds, rfl, m.ex e1, hp.ex m e1, hn, r1, h1, h2, fun d u H' hd e mm pp rr => q d u H' hd ((Ex.ex1 e1).trans e) mm pp rr⟩⟩
end

end Nv
set_option Elab.async false
set_option linter.all false
set_option maxRecDepth 100000
set_option maxHeartbeats 4000000
/-! Promises of the law's own defs: comprehensions that draw, _law_lot. -/
namespace Nv
open PySem PySem.Spec PyProof.Rows L2 StX NvZ
/-- es: of each of ds one that F allows, or none (if sk) -/
inductive Pk (F : D → D → Prop) (sk : Prop) : List D → List D → Prop where
  | nil : Pk F sk [] []
  | skip {ds es : List D} {d : D} : sk → Pk F sk ds es → Pk F sk (ds ++ [d]) es
  | add {ds es : List D} {d e : D} : Pk F sk ds es → F d e → Pk F sk (ds ++ [d]) (es ++ [e])
theorem Pk.len {F : D → D → Prop} {sk : Prop} {ds es : List D} (h : Pk F sk ds es) : es.length ≤ ds.length := by
  induction h with
  | nil => exact Nat.le_refl _
  | skip _ _ ih => rw [List.length_append]; omega
  | add _ _ ih => rw [List.length_append, List.length_append]; simp; exact ih
theorem Pk.sub {sk : Prop} {ds es : List D} (h : Pk (fun d e => e = d) sk ds es) : es.Sublist ds := by
  induction h with
  | nil => exact List.Sublist.refl _
  | skip _ _ ih => exact ih.trans (List.sublist_append_left _ _)
  | add _ hf ih => rw [hf]; exact ih.append (List.Sublist.refl _)
theorem Pk.all {F : D → D → Prop} {sk : Prop} {ds es : List D} (h : Pk F sk ds es) : ∀ e ∈ es, ∃ d ∈ ds, F d e := by
  induction h with
  | nil => intro e he; cases he
  | skip _ _ ih =>
    intro e he
    obtain ⟨d, hd, hf⟩ := ih e he
    exact ⟨d, List.mem_append.mpr (.inl hd), hf⟩
  | @add ds es d e' _ hf ih =>
    intro e he
    rcases List.mem_append.mp he with he | he
    · obtain ⟨d, hd, hf⟩ := ih e he
      exact ⟨d, List.mem_append.mpr (.inl hd), hf⟩
    · rw [List.mem_singleton.mp he]
      exact ⟨d, List.mem_append.mpr (.inr (List.mem_singleton.mpr rfl)), hf⟩
theorem Pk.same {F : D → D → Prop} {ds es : List D} (h : Pk F False ds es) : es.length = ds.length := by
  induction h with
  | nil => rfl
  | skip z _ _ => exact z.elim
  | add _ _ ih => rw [List.length_append, List.length_append, ih]; rfl
section
variable {K : PySem.W.Frag} {A : Ads} {S S' : Addr → Prop} {σ : L2.St} {H H' H1 : Hp} {E : XK} {p : Addr} {n : Nat}
theorem PenAt.put {k : Addr} {o : HO} (h : PenAt K S H p n) (m : Mem S H) (hk : S k) (ne : p ≠ k) : PenAt K S (upd H k o) p n := by
  obtain ⟨s, ra, ns, a, r, g1, g2, g3⟩ := h
  exact ⟨s, ra, ns, a, r, by rw [upd_ne ne]; exact g1, g2.mono (ExS.put m hk), g3⟩
theorem PenAt.up (h : PenAt K S H p n) (u : Up K S H S' H') (e : ∀ o, H p = some o → H' p = some o) (hS : S' p) : PenAt K S' H' p n := by
  obtain ⟨s, ra, ns, a, r, g1, g2, g3⟩ := h
  exact ⟨hS, ra, ns, a, r, e _ g1, u _ _ g2, g3⟩
theorem PenAt.less (h : PenAt K S H p n) (le : ∀ a, S' a → S a) (hS : S' p) : PenAt K S' H p n := by
  obtain ⟨s, ra, ns, a, r, g1, g2, g3⟩ := h
  exact ⟨hS, ra, ns, a, r, g1, g2.less le, g3⟩
/-- behind a piece that draws -/
structure Aft (K : PySem.W.Frag) (S : Addr → Prop) (H : Hp) (p : Addr) (n : Nat) (H' : Hp) : Prop where
  ex : Ex1 p H H'
  mem : Mem S H'
  pen : PenAt K S H' p n
theorem Aft.up (a : Aft K S H p n H') : Up K S H S H' := by
  by_cases hm : Mem S H
  · exact Up.exS (Ex1.exS hm a.pen.1 a.ex a.pen.there)
  · exact fun v d r => r.mono ⟨fun b o nb hb => a.ex b o (fun z => nb (z ▸ a.pen.1)) hb, a.mem⟩
theorem Aft.trans {H2 : Hp} {n' : Nat} (a : Aft K S H p n H') (b : Aft K S H' p n' H2) : Aft K S H p n' H2 := ⟨a.ex.trans b.ex, b.mem, b.pen⟩
theorem Aft.le {n' : Nat} (a : Aft K S H p n H') (h : n ≤ n') : Aft K S H p n' H' := ⟨a.ex, a.mem, a.pen.le h⟩
theorem Aft.grow {H2 : Hp} (a : Aft K S H p n H') (e : Ex H' H2) : Aft K S H p n H2 := ⟨a.ex.trans (Ex.ex1 e), a.mem.ex e, a.pen.ex a.mem e⟩
theorem Aft.refl (m : Mem S H) (h : PenAt K S H p n) : Aft K S H p n H := ⟨Ex1.refl, m, h⟩
/-- a comprehension whose parts draw, at most c times a turn -/
theorem lc_pen {wi : TI} {i : Nat} {tt : TT} {te : TE} {PD : List D → Prop} {F : D → D → Prop} {sk : Prop} {Q : VK} (c L : Nat) (m : Mem S H) (hp : PenAt K S H p n) (hi : ∀ R : It → Hp → Prop, (∀ J H2 n' ds, Aft K S H p n' H2 → n' + c * L ≤ 1000000 → n' ≤ n + c → PD ds → Gen K S J H2 ds → R J H2) → wi σ H R) (hL : ∀ ds, PD ds → ds.length ≤ L) (hL2 : L ≤ 1000)
    (hwp : ∀ x : V, wipe ((wipe σ [i]).set i (some x)) [i] = wipe σ [i])
    (hb : ∀ S' G n' ds d x, PD ds → d ∈ ds → Mem S' G → Up K S H S' G → PenAt K S' G p n' → n' + c ≤ 1000000 → Rp K S' G x d → ∀ R : Option V → Hp → Prop, (∀ H5, Aft K S' G p (n' + c) H5 → sk → R none H5) → (∀ v e H5, Aft K S' G p (n' + c) H5 → F d e → Rp K S' H5 v e → R (some v) H5) →
      tt ((wipe σ [i]).set i (some x)) G fun b H4 => if b = true then te ((wipe σ [i]).set i (some x)) H4 fun v H5 => R (some v) H5 else R none H4)
    (k : ∀ v ds es H', PD ds → Pk F sk ds es → Aft K S H p (n + c + c * L) H' → Rp K S H' v (.lst es) → Q v H') :
    tLc wi (gName i) tt te [i] σ H Q := hi _ fun J H2 n2 ds aft2 hn2 hn2' pd gen D hD => by
  have hl := hL ds pd
  have hcl : c * ds.length ≤ c * L := Nat.mul_le_mul_left c hl
  have m2 := aft2.mem
  have nS : ¬ S D := m2.new hD
  have neD : p ≠ D := fun z => by
    obtain ⟨o, ho⟩ := aft2.pen.there
    rw [z, hD] at ho; cases ho
  have hDH : H D = none := by
    cases z : H D with
    | none => rfl
    | some o => rw [aft2.ex D o (Ne.symm neD) z] at hD; cases hD
  have exN : ∀ o, Ex H2 (upd H2 D o) := fun o => Evl.Ex.new hD
  have m' : Mem (plus S D) (upd H2 D (.lst [])) := fun b s => by
    rcases s with s | s
    · obtain ⟨o, h⟩ := m2 b s
      exact ⟨o, exN _ _ _ h⟩
    · exact ⟨_, by rw [s]; exact upd_same⟩
  have up0 : Up K S H2 (plus S D) (upd H2 D (.lst [])) := fun v d r => (r.plus hD).mono ⟨fun a o _ h => exN _ _ _ h, m'⟩
  refine ⟨fun j mm G => mm = ds.length - j ∧ j ≤ ds.length ∧ Mem (plus S D) G ∧ Up K S H2 (plus S D) G ∧ Ex1 p H G ∧ PenAt K (plus S D) G p (n2 + c * j) ∧ ∃ acc es, G D = some (.lst acc) ∧ RpA K (plus S D) G acc es ∧ Pk F sk (ds.take j) es, ⟨ds.length, by simp, Nat.zero_le _, m', up0, aft2.ex.trans (Ex.ex1 (exN _)), by rw [Nat.mul_zero, Nat.add_zero]; exact aft2.pen.up up0 (fun o h => exN _ _ _ h) (.inl aft2.pen.1), [], [], upd_same, .nil, by rw [List.take_zero]; exact .nil⟩, ?_⟩
  rintro j mm G ⟨rfl, hjl, mG, uG, xG, pG, acc, es, hacc, rA, hpk⟩
  obtain ⟨gi, gs⟩ := gen _ G mG uG
  by_cases hlt : j < ds.length
  · obtain ⟨d, hd⟩ : ∃ d, ds[j]? = some d := ⟨ds[j], by simp [hlt]⟩
    obtain ⟨go, gy⟩ := gi j d hd
    refine .inr ⟨go, fun G' => j + 1 ≤ ds.length ∧ Mem (plus S D) G' ∧ Up K S H2 (plus S D) G' ∧ Ex1 p H G' ∧ PenAt K (plus S D) G' p (n2 + c * (j + 1)) ∧ ∃ acc es, G' D = some (.lst acc) ∧ RpA K (plus S D) G' acc es ∧ Pk F sk (ds.take (j + 1)) es, fun G' h => ⟨ds.length - (j + 1), by omega, rfl, h⟩, fun x G1 y => ?_⟩
    obtain ⟨ey, rx⟩ := gy x G1 y
    have m1 := mG.ex ey
    have p1 := pG.ex mG ey
    have u1 : Up K S H (plus S D) G1 := (aft2.up.trans uG).trans (Up.ex mG ey)
    have tk : ds.take (j + 1) = ds.take j ++ [d] := by rw [List.take_add_one, hd]; rfl
    have hcj : c * j + c ≤ c * ds.length := by
      have := Nat.mul_le_mul_left c hlt
      rw [Nat.mul_succ] at this
      exact this
    have hcs : c * (j + 1) = c * j + c := Nat.mul_succ c j
    refine ⟨hwp x, ?_⟩
    have fin : ∀ (H5 : Hp), Aft K (plus S D) G1 p (n2 + c * j + c) H5 → (Up K (plus S D) G1 (plus S D) H5) ∧ H5 D = some (.lst acc) ∧ RpA K (plus S D) H5 acc es ∧ Up K S H2 (plus S D) H5 ∧ Ex1 p H H5 := fun H5 a => by
      have ua := a.up
      exact ⟨ua, a.ex _ _ (Ne.symm neD) (ey _ _ hacc), ua.arr (rA.mono (.of mG ey)), (uG.trans (Up.ex mG ey)).trans ua, (xG.trans (Ex.ex1 ey)).trans a.ex⟩
    refine hb (plus S D) G1 (n2 + c * j) ds d x pd (List.mem_of_getElem? hd) m1 u1 p1 (by omega) rx (fun o H5 => match o with
      | some v => ∃ acc', H5 D = some (.lst acc') ∧ acc'.length < sizeLine ∧ (j + 1 ≤ ds.length ∧ Mem (plus S D) (upd H5 D (.lst (acc' ++ [v]))) ∧ Up K S H2 (plus S D) (upd H5 D (.lst (acc' ++ [v]))) ∧ Ex1 p H (upd H5 D (.lst (acc' ++ [v]))) ∧ PenAt K (plus S D) (upd H5 D (.lst (acc' ++ [v]))) p (n2 + c * (j + 1)) ∧ ∃ acc es, (upd H5 D (.lst (acc' ++ [v]))) D = some (.lst acc) ∧ RpA K (plus S D) (upd H5 D (.lst (acc' ++ [v]))) acc es ∧ Pk F sk (ds.take (j + 1)) es)
      | none => j + 1 ≤ ds.length ∧ Mem (plus S D) H5 ∧ Up K S H2 (plus S D) H5 ∧ Ex1 p H H5 ∧ PenAt K (plus S D) H5 p (n2 + c * (j + 1)) ∧ ∃ acc es, H5 D = some (.lst acc) ∧ RpA K (plus S D) H5 acc es ∧ Pk F sk (ds.take (j + 1)) es) (fun H5 a hsk => ?_) (fun v e H5 a hf rv => ?_)
    · obtain ⟨_, f1, f2, f3, f4⟩ := fin H5 a
      refine ⟨hlt, a.mem, f3, f4, by rw [hcs, ← Nat.add_assoc]; exact a.pen, acc, es, f1, f2, ?_⟩
      rw [tk]; exact .skip hsk hpk
    · obtain ⟨_, f1, f2, f3, f4⟩ := fin H5 a
      have put : ExS (plus S D) H5 (upd H5 D (.lst (acc ++ [v]))) := ExS.put a.mem (.inr rfl)
      refine ⟨acc, f1, ?_, hlt, put.mem, f3.trans (Up.exS put), fun b o nb hb => ?_, by rw [hcs, ← Nat.add_assoc]; exact a.pen.put a.mem (.inr rfl) neD, acc ++ [v], es ++ [e], upd_same, (f2.app (.cons rv .nil)).mono put, ?_⟩
      · have h1 := f2.length
        have h2 := hpk.len
        rw [List.length_take] at h2
        rw [h1, sizeLine_eq]; omega
      · have nbD : b ≠ D := fun z => by rw [z, hDH] at hb; cases hb
        rw [upd_ne nbD]
        exact f4 b o nb hb
      · rw [tk]; exact .add hpk hf
  · have e : j = ds.length := by omega
    subst e
    rw [List.take_length] at hpk
    have le : ∀ a, S a → plus S D a := fun a s => .inl s
    have aF : Aft K S H p (n + c + c * L) G := ⟨xG, fun b s => mG b (.inl s), (pG.less le aft2.pen.1).le (by omega)⟩
    exact .inl ⟨gs, k _ ds es _ pd hpk aF (.lst ⟨hacc, nS⟩ (rA.less le))⟩
end
end Nv
set_option Elab.async false
set_option linter.all false
set_option maxRecDepth 100000
set_option maxHeartbeats 4000000
/-! Promises of the law's own defs: _law_lot. -/
namespace Nv
open PySem PySem.Spec PyProof.Rows L2 StX NvZ
section
variable {K : PySem.W.Frag} {A : Ads} {S S' : Addr → Prop} {σ : L2.St} {H H' H1 : Hp} {E : XK} {p : Addr} {n : Nat}
theorem tC_intro {v : V} {Q : VK} (h : Q v H) : tC v σ H Q := h
/-- a draw, going on -/
theorem ax_draw {i : Nat} {te : TE} {most : Int} {Q : VK} (m : Mem S H) (hσ : σ[i]? = some (some (.ref p))) (hp : PenAt K S H p n) (hn : n ≤ 1000000) (h : EvD K S te σ H (.int most)) (h1 : 1 ≤ most) (h2 : most ≤ 1000)
    (q : ∀ (k : Int) H', 0 ≤ k → k < most → Aft K S H p (n + 1) H' → Q (.int k) H') : tCall (spDraw K) [] E0 (tCons (tVar i) (tCons te tNil)) σ H Q :=
  cx_draw m hσ hp hn h h1 h2 fun k H' k0 k1 e mm pp => q k H' k0 k1 ⟨e, mm, pp⟩
theorem ax_pick {i : Nat} {te : TE} {ds : List D} {Q : VK} (m : Mem S H) (hσ : σ[i]? = some (some (.ref p))) (hp : PenAt K S H p n) (hn : n ≤ 1000000) (h : EvD K S te σ H (.lst ds)) (h1 : 1 ≤ ds.length) (h2 : ds.length ≤ 1000)
    (q : ∀ d v H', d ∈ ds → Aft K S H p (n + 1) H' → Rp K S H' v d → Q v H') : tCall (spPick K) [] E0 (tCons (tVar i) (tCons te tNil)) σ H Q :=
  cx_pick m hσ hp hn h h1 h2 fun d v H' hd e mm pp r => q d v H' hd ⟨e, mm, pp⟩ r
def spLLot (K : PySem.W.Frag) : Sp := fun vs H Q _ => ∃ S p n vw d ds, ∃ many : Int, vs = [.ref p, vw, .int many] ∧ Mem S H ∧ PenAt K S H p n ∧ n + 21 ≤ 1000000 ∧ Rp K S H vw d ∧ SeqD d ds ∧ ds.length ≤ 20 ∧ 1 ≤ many ∧ many ≤ 1000 ∧ ∀ v es H', es.Sublist ds → Aft K S H p (n + 21) H' → Rp K S H' v (.lst es) → Q v H'
theorem pr_llot (vs : List V) (H : Hp) (Q : VK) (E : XK) (hh : spLLot K vs H Q E) : t_law_lot K A E (spDraw K) { nx := fun _ H' => Q .non H', rt := Q } (start ["pen", "some", "many", "one"] vs) H := by
  obtain ⟨S, p, n, vw, d, ds, many, rfl, m, hp, hn, r, hq, hl, h1, h2, k⟩ := hh
  show t_law_lot K A E (spDraw K) { nx := fun _ H' => Q .non H', rt := Q } [some (.ref p), some vw, some (.int many), none] H
  refine lc_pen (S := S) (p := p) (n := n) (PD := fun ds' => ds' = ds) (F := fun d e => e = d) (sk := True) 1 20 m hp (fun R hR => ?_) (fun ds' z => by rw [z]; exact hl) (by decide) (fun _ => rfl) (fun S' G n' ds' d' x pd hd mG uG pG hn' rx R hno hyes => ?_) fun v ds' es H' pd pk aft rv => ?_
  · have hi := ei_seq (K := K) (S := S) (σ := [some (.ref p), some vw, some (.int many), none]) m (ev_var (i := 1) m rfl r) (walks_Q hq)
    rw [items_Q hq] at hi
    exact hi H (Evl.Ex.refl _) R fun J H2 e2 gen => hR J H2 n ds ⟨Ex.ex1 e2, m.ex e2, hp.ex m e2⟩ (by omega) (by omega) rfl gen
  · refine ax_draw (i := 0) mG rfl pG (by omega) (ev_var (i := 2) mG rfl (.int many)) h1 h2 fun z H4 z0 z1 a4 => ?_
    refine tC_intro ?_
    dsimp only
    refine r_eqD (K := K) (S := S') (H := H4) (d1 := .int z) (d2 := .int 0) rfl rfl (Nat.zero_le _) (Nat.zero_le _) H4 (Evl.Ex.refl _) _ _ (.int z) (.int 0) _ fun v5 H5 e5 r5 => ?_
    rw [eqD_int] at r5
    cases r5
    refine ⟨_, rfl, ?_⟩
    have a5 : Aft K S' G p (n' + 1) H5 := a4.grow e5
    by_cases hz : z = 0
    · rw [decide_eq_true hz, if_pos rfl]
      exact ⟨x, rfl, hyes x d' H5 a5 rfl (a5.up _ _ rx)⟩
    · rw [decide_eq_false hz, if_neg Bool.false_ne_true]
      exact hno H5 a5 trivial
  · subst pd
    exact k v es H' pk.sub (aft.le (by omega)) rv
theorem ax_lot {i : Nat} {te t3 : TE} {d : D} {ds : List D} {many : Int} {Q : VK} (m : Mem S H) (hσ : σ[i]? = some (some (.ref p))) (hp : PenAt K S H p n) (hn : n + 21 ≤ 1000000) (h : EvD K S te σ H d) (hq : SeqD d ds) (hl : ds.length ≤ 20) (h3 : EvD K S t3 σ H (.int many)) (h1 : 1 ≤ many) (h2 : many ≤ 1000)
    (q : ∀ v es H', es.Sublist ds → Aft K S H p (n + 21) H' → Rp K S H' v (.lst es) → Q v H') : tCall (spLLot K) [] E0 (tCons (tVar i) (tCons te (tCons t3 tNil))) σ H Q :=
  ⟨_, hσ, h H (Evl.Ex.refl _) _ fun v H1 e1 r1 => h3 H1 e1 _ fun v3 H2 e2 r3 => by
    cases r3
    have e := e1.trans e2
    exact ⟨S, p, n, v, d, ds, many, rfl, m.ex e, hp.ex m e, hn, r1.mono (.of (m.ex e1) e2), hq, hl, h1, h2, fun v es H' hs a r => q v es H' hs ⟨(Ex.ex1 e).trans a.ex, a.mem, a.pen⟩ r⟩⟩
/-! ### lists chosen -/
theorem list_choose {α : Type} {P : α → Prop} {f : α → D} : ∀ {es : List D}, (∀ e ∈ es, ∃ a, P a ∧ e = f a) → ∃ as : List α, es = as.map f ∧ ∀ a ∈ as, P a
  | [], _ => ⟨[], rfl, fun _ h => by cases h⟩
  | e :: es, h => by
    obtain ⟨a, pa, ea⟩ := h e (List.mem_cons_self ..)
    obtain ⟨as, hs, pas⟩ := list_choose (es := es) fun x hx => h x (List.mem_cons_of_mem _ hx)
    refine ⟨a :: as, by rw [ea, hs]; rfl, fun b hb => ?_⟩
    rcases List.mem_cons.mp hb with rfl | hb
    · exact pa
    · exact pas b hb
def rgI (m : Int) : List Int := (List.range m.toNat).map fun i : Nat => (i : Int)
theorem rgI_len (m : Int) : (rgI m).length = m.toNat := by unfold rgI; rw [List.length_map, List.length_range]
theorem rgI_ok {m : Int} (h : m ≤ 20) : LotOk 0 (m - 1) (rgI m) := by
  refine ⟨fun i hi => ?_, ?_, by rw [rgI_len]; omega⟩
  · obtain ⟨j, hj, rfl⟩ := List.mem_map.mp hi
    have := List.mem_range.mp hj
    omega
  · unfold rgI
    rw [List.pairwise_map]
    exact List.pairwise_lt_range.imp fun h => by omega
theorem lot_sub {lo hi : Int} {l l' : List Int} (ok : LotOk lo hi l) (h : l'.Sublist l) : LotOk lo hi l' := ⟨fun i hi => ok.rng i (h.subset hi), ok.inc.sublist h, Nat.le_trans h.length_le ok.len0⟩
theorem wlot_sub {ws l l' : List Str} (ok : WLotOk ws l) (h : l'.Sublist l) : WLotOk ws l' := ⟨fun i hi => ok.mem i (h.subset hi), ok.inc.sublist h, Nat.le_trans h.length_le ok.len0⟩
theorem sub_ints {es : List D} {l : List Int} (h : es.Sublist (l.map D.int)) : ∃ l' : List Int, es = l'.map D.int ∧ l'.Sublist l := by
  obtain ⟨l', hs, e⟩ := List.sublist_map_iff.mp h
  exact ⟨l', e, hs⟩
theorem sub_strs {es : List D} {l : List Str} (h : es.Sublist (l.map D.str)) : ∃ l' : List Str, es = l'.map D.str ∧ l'.Sublist l := by
  obtain ⟨l', hs, e⟩ := List.sublist_map_iff.mp h
  exact ⟨l', e, hs⟩
theorem ev_listRg {te : TE} {m0 : Int} (m : Mem S H) (he : EvD K S te σ H (.int m0)) (h0 : 0 ≤ m0) (h1 : m0 ≤ 1000) : EvD K S (tLstRg (tRg1 te)) σ H (.lst ((rgI m0).map D.int)) := fun H1 e Q k => he H1 e _ fun v H2 e2 r2 => by
  cases r2
  refine ⟨m0, rfl, RgOk.of_le (by omega) (by omega) (by omega) h0, fun q hq => ?_⟩
  have hr : RpA K S H2 (rgV 0 m0) ((rgI m0).map D.int) := by
    have e1 : rgV 0 m0 = (rgI m0).map V.int := by
      unfold rgV rgI
      rw [List.map_map, Int.sub_zero]
      refine List.map_congr_left fun i _ => ?_
      show V.int (0 + (i : Nat)) = V.int (i : Nat)
      rw [Int.zero_add]
    rw [e1]
    exact rpA_ints _
  exact k _ _ (e2.trans (Evl.Ex.new hq)) (.newL (m.ex (e.trans e2)) hr hq)
end
end Nv
set_option Elab.async false
set_option linter.all false
set_option maxRecDepth 100000
set_option maxHeartbeats 4000000
/-! Promises of the law's own defs: drawn kinds. -/
namespace Nv
open PySem PySem.Spec PyProof.Rows L2 StX NvZ
theorem least2_le {i : Int} (h1 : 1 ≤ i) (h3 : i ≤ 3) : 1 ≤ least2 i ∧ least2 i ≤ 2 := by
  unfold least2
  by_cases z : (2 : Int) < i
  · rw [if_pos z]; omega
  · rw [if_neg z]; omega
section
variable {K : PySem.W.Frag} {A : Ads} {S S' : Addr → Prop} {σ : L2.St} {H H' H1 : Hp} {E : XK} {p : Addr} {n : Nat}
theorem tYes_intro {Q : Bool → Hp → Prop} (h : Q true H) : tYes σ H Q := h
theorem tCB_intro {r : List V → Hp → VK → Prop} {te : TE} {Q : VK} (h : te σ H fun v H1 => r [v] H1 Q) : tCB r (tCons te tNil) σ H Q := h
abbrev teLinks (K : PySem.W.Frag) : TE := tCB (rTupOf K) (tCons (tLc (iRng1 (tCons (tCall (spDraw K) [] E0 (tCons (tVar 0) (tCons (tOp rAddI (tCB rMin2 (tCons (tVar 4) (tCons (tC (.int 2)) tNil))) (tC (.int 1))) tNil))) tNil)) (gName 7) tYes (tCB (rTupOf K) (tCons (tCall (spLLot K) [] E0 (tCons (tVar 0) (tCons (tLstRg (tRg1 (tVar 1))) (tCons (tC (.int 2)) tNil)))) tNil)) [7]) tNil)
theorem ax_links {many size : Int} {Q : VK} (m : Mem S H) (hp : PenAt K S H p n) (hn : n ≤ 800000) (h0 : σ[0]? = some (some (.ref p))) (h1 : σ[1]? = some (some (.int many))) (h4 : σ[4]? = some (some (.int size)))
    (w0 : ∀ x : V, ((wipe σ [7]).set 7 (some x))[0]? = some (some (.ref p))) (w1 : ∀ x : V, ((wipe σ [7]).set 7 (some x))[1]? = some (some (.int many))) (hwp : ∀ x : V, wipe ((wipe σ [7]).set 7 (some x)) [7] = wipe σ [7])
    (hm1 : 1 ≤ many) (hm3 : many ≤ 3) (hs1 : 1 ≤ size) (hs3 : size ≤ 3) (k : ∀ v ls H', KindOk many (size, ls) → Aft K S H p (n + 63) H' → Rp K S H' v (.tup (ls.map intsD)) → Q v H') : teLinks K σ H Q := by
  have hle := least2_le hs1 hs3
  have hmin : ∀ {G : Hp}, Mem S G → EvD K S (tOp rAddI (tCB rMin2 (tCons (tVar 4) (tCons (tC (.int 2)) tNil))) (tC (.int 1))) σ G (.int (least2 size + 1)) := fun mg => ev_op mg (ev_cb (ea_cons mg (ev_var (i := 4) mg h4 (.int size)) (ea_cons mg ev_int ea_nil)) ra_min) ev_int r_add
  refine tCB_intro ?_
  refine lc_pen (S := S) (p := p) (n := n) (PD := fun ds => ∃ cnt : Int, 0 ≤ cnt ∧ cnt ≤ least2 size ∧ ds = (List.range cnt.toNat).map fun i : Nat => D.int (0 + i)) (F := fun _ e => ∃ l, LotOk 0 (many - 1) l ∧ e = intsD l) (sk := False) 21 2 m hp (fun R hR => ?_) (fun ds z => ?_) (by decide) hwp (fun S' G n' ds d x pd hd mG uG pG hn' rx R hno hyes => ?_) fun v ds es H' pd pk aft rv => ?_
  · refine ax_draw (i := 0) m h0 hp (by omega) (hmin m) (by omega) (by omega) fun z H2 z0 z1 a2 => ?_
    exact ⟨z, rfl, by omega, by omega, hR _ H2 (n + 1) _ a2 (by omega) (by omega) ⟨z, z0, by omega, rfl⟩ gen_R⟩
  · obtain ⟨cnt, c0, c1, rfl⟩ := z
    rw [List.length_map, List.length_range]
    omega
  · refine tYes_intro ?_
    rw [if_pos rfl]
    refine tCB_intro ?_
    refine ax_lot (S := S') (i := 0) mG (w0 x) pG (by omega) (ev_listRg mG (ev_var (i := 1) mG (w1 x) (.int many)) (by omega) (by omega)) (.inl rfl) (by rw [List.length_map, rgI_len]; omega) ev_int (by decide) (by decide) fun v5 es5 H5 hsub a5 r5 => ?_
    obtain ⟨l, rfl, hl⟩ := sub_ints hsub
    refine ra_tup a5.mem H5 (Evl.Ex.refl _) _ (.cons r5 .nil) _ fun v6 H6 e6 r6 => ?_
    exact hyes v6 _ H6 (a5.grow e6) ⟨l, lot_sub (rgI_ok (by omega)) hl, rfl⟩ r6
  · obtain ⟨cnt, c0, c1, rfl⟩ := pd
    obtain ⟨ls, rfl, hls⟩ := list_choose (f := intsD) fun e he => by
      obtain ⟨_, _, hf⟩ := pk.all e he
      exact hf
    have hlen := pk.same
    rw [List.length_map, List.length_map, List.length_range] at hlen
    refine ra_tup aft.mem H' (Evl.Ex.refl _) _ (.cons rv .nil) _ fun v6 H6 e6 r6 => ?_
    exact k v6 ls H6 ⟨hs1, hs3, by show (ls.length : Int) ≤ least2 size; omega, hls⟩ ((aft.grow e6).le (by omega)) r6
/-- c + draw -/
theorem ax_add {i : Nat} {te : TE} {c most : Int} {Q : VK} (m : Mem S H) (hσ : σ[i]? = some (some (.ref p))) (hp : PenAt K S H p n) (hn : n ≤ 1000000) (h : EvD K S te σ H (.int most)) (h1 : 1 ≤ most) (h2 : most ≤ 1000)
    (q : ∀ (k : Int) H', c ≤ k → k < c + most → Aft K S H p (n + 1) H' → Q (.int k) H') : tOp rAddI (tC (.int c)) (tCall (spDraw K) [] E0 (tCons (tVar i) (tCons te tNil))) σ H Q :=
  tC_intro (ax_draw m hσ hp hn h h1 h2 fun k H' k0 k1 a => ⟨c, k, rfl, rfl, q (c + k) H' (by omega) (by omega) a⟩)
/-- the kinds -/
abbrev tsKinds (K : PySem.W.Frag) : TS := tFor (iRng1 (tCons (tVar 1) tNil)) (gName 3) (tSeq (tAsg (tOp rAddI (tC (.int 1)) (tCall (spDraw K) [] E0 (tCons (tVar 0) (tCons (tC (.int 3)) tNil)))) (gName 4)) (tDrop (tBM K "list" rAppend (tVar 2) (tCons (tTup (tCons (tVar 4) (tCons (teLinks K) tNil))) tNil))))
theorem ax_kinds {many : Int} {kd : Addr} {D0 : Ends} (m : Mem S H) (hp : PenAt K S H p n) (hn : n ≤ 100000) (hS : S kd) (ne : p ≠ kd) (hk : H kd = some (.lst [])) (hm1 : 1 ≤ many) (hm3 : many ≤ 3)
    (k : ∀ a b (ks : List Kind) vs G, ks.length = many.toNat → (∀ kk ∈ ks, KindOk many kk) → Mem S G → Up K S H S G → PenAt K S G p (n + 300) → (∀ b o, b ≠ p → b ≠ kd → H b = some o → G b = some o) → G kd = some (.lst vs) → RpA K S G vs (ks.map kindD) → D0.nx [some (.ref p), some (.int many), some (.ref kd), a, b, none, none, none] G) :
    tsKinds K D0 [some (.ref p), some (.int many), some (.ref kd), none, none, none, none, none] H := by
  have hi : EvI K S (iRng1 (tCons (tVar 1) tNil)) [some (.ref p), some (.int many), some (.ref kd), none, none, none, none, none] H ((List.range many.toNat).map fun i : Nat => .int (0 + i)) := ei_range1 (ev_a1 (ev_var (i := 1) m rfl (.int many))) (by omega) (by omega)
  refine ts_for hi fun H2 e2 => ⟨fun i σ' G => (∃ a b, σ' = [some (.ref p), some (.int many), some (.ref kd), a, b, none, none, none]) ∧ Mem S G ∧ Up K S H2 S G ∧ PenAt K S G p (n + 64 * i) ∧ (∀ b o, b ≠ p → b ≠ kd → H2 b = some o → G b = some o) ∧ ∃ vs, ∃ ks : List Kind, G kd = some (.lst vs) ∧ RpA K S G vs (ks.map kindD) ∧ ks.length = i ∧ ∀ kk ∈ ks, KindOk many kk, ?_, fun i σ' G a => ⟨S, a.2.1, a.2.2.1⟩, fun i d σ' G hd a x G2 ex hx => ?_, fun σ' G a => ?_⟩
  · exact ⟨⟨none, none, rfl⟩, m.ex e2, Up.refl, hp.ex m e2, fun _ _ _ _ h => h, [], [], e2 _ _ hk, .nil, rfl, fun _ h => by cases h⟩
  · obtain ⟨⟨a, b, rfl⟩, mG, uG, pG, xG, vs, ks, hvs, rA, hlen, hok⟩ := a
    have hil : i < 3 := by
      have := (List.getElem?_eq_some_iff.mp hd).1
      rw [List.length_map, List.length_range] at this
      omega
    have m2 := mG.ex ex
    have p2 := pG.ex mG ex
    show tSeq _ _ _ [some (.ref p), some (.int many), some (.ref kd), some x, b, none, none, none] G2
    refine ax_add (S := S) (i := 0) m2 rfl p2 (by omega) (ev_int (i := 3)) (by decide) (by decide) fun size G3 s0 s1 a3 => ?_
    refine ⟨.ref kd, rfl, ?_, ?_⟩
    · exact .inl ⟨rfl, vs, .inl (.inl (a3.ex _ _ (Ne.symm ne) (ex _ _ hvs)))⟩
    · refine ⟨_, rfl, ?_⟩
      refine ax_links (S := S) (σ := [some (.ref p), some (.int many), some (.ref kd), some x, some (.int size), none, none, none]) a3.mem a3.pen (by omega) rfl rfl rfl (fun _ => rfl) (fun _ => rfl) (fun _ => rfl) hm1 hm3 s0 (by omega) fun v ls G4 ok4 a4 r4 => ?_
      have a24 := a3.trans a4
      refine ⟨by rw [sizeLine_eq]; show 2 ≤ _; omega, fun t ht => ?_⟩
      have eN : Ex G4 (upd G4 t (.tup [.int size, v])) := Evl.Ex.new ht
      have rt : Rp K S (upd G4 t (.tup [.int size, v])) (.ref t) (kindD (size, ls)) := .newT a4.mem (.cons (.int size) (.cons r4 .nil)) ht
      have a5 := a24.grow eN
      have hvs5 : (upd G4 t (.tup [.int size, v])) kd = some (.lst vs) := eN _ _ (a24.ex _ _ (Ne.symm ne) (ex _ _ hvs))
      have rA5 := a5.up.arr (rA.mono (.of mG ex))
      generalize upd G4 t (.tup [.int size, v]) = G5 at rt a5 hvs5 rA5
      refine ⟨kd, vs, .ref t, rfl, rfl, hvs5, by rw [rA5.length, List.length_map, sizeLine_eq]; omega, ?_⟩
      have put : ExS S G5 (upd G5 kd (.lst (vs ++ [.ref t]))) := ExS.put a5.mem hS
      refine ⟨⟨some x, some (.int size), rfl⟩, put.mem, ((uG.trans (Up.ex mG ex)).trans a5.up).trans (Up.exS put), ?_, fun b' o h1 h2 h3 => ?_, vs ++ [.ref t], ks ++ [(size, ls)], upd_same, ?_, by rw [List.length_append, hlen]; rfl, fun kk hkk => ?_⟩
      · have := a5.pen.put (o := .lst (vs ++ [.ref t])) a5.mem hS ne
        exact this.le (by omega)
      · rw [upd_ne h2]
        exact a5.ex _ _ h1 (ex _ _ (xG b' o h1 h2 h3))
      · rw [List.map_append]
        exact (rA5.app (.cons rt .nil)).mono put
      · rcases List.mem_append.mp hkk with h | h
        · exact hok kk h
        · rw [List.mem_singleton.mp h]; exact ok4
  · obtain ⟨⟨a, b, rfl⟩, mG, uG, pG, xG, vs, ks, hvs, rA, hlen, hok⟩ := a
    rw [List.length_map, List.length_range] at hlen pG
    exact k a b ks vs G hlen hok mG ((Up.ex m e2).trans uG) (pG.le (by omega)) (fun b' o h1 h2 h3 => xG b' o h1 h2 (e2 _ _ h3)) hvs rA
end
end Nv
set_option Elab.async false
set_option linter.all false
set_option maxRecDepth 100000
set_option maxHeartbeats 4000000
/-! Promises of the law's own defs: the drawn house as a dict. -/
namespace Nv
open PySem PySem.Spec PyProof.Rows L2 StX NvZ
def plK (c k r l ro pa ne sl ak co : V) : List (Key × V) := [(.inr "cells", c), (.inr "kinds", k), (.inr "registers", r), (.inr "live", l), (.inr "rooms", ro), (.inr "pace", pa), (.inr "need", ne), (.inr "slide", sl), (.inr "asked", ak), (.inr "collector", co)]
def PlainAt (K : PySem.W.Frag) (S : Addr → Prop) (H : Hp) (d : Addr) (g : Hs) (coD : D) : Prop :=
  ∃ kv pa ak co, H d = some (.dK (plK (.int g.cells) kv (.int g.registers) (.int g.live) (.str g.rooms) pa (.str g.need) (.bl g.slide) ak co)) ∧ Rp K S H kv (kindsD g.kinds) ∧ Rp K S H pa (optD g.pace) ∧ Rp K S H ak (strsT g.asked) ∧ Rp K S H co coD
structure PSt (K : PySem.W.Frag) (S : Addr → Prop) (H0 : Hp) (p d : Addr) (n : Nat) (g : Hs) (coD : D) (G : Hp) : Prop where
  mem : Mem S G
  pen : PenAt K S G p n
  ex : ∀ b o, b ≠ p → b ≠ d → H0 b = some o → G b = some o
  dic : PlainAt K S G d g coD
section
variable {K : PySem.W.Frag} {A : Ads} {S S' : Addr → Prop} {σ : L2.St} {H0 H H' H1 G G' : Hp} {E : XK} {p d o : Addr} {n n' : Nat} {g : Hs} {coD : D}
theorem PlainAt.up (a : PlainAt K S H d g coD) (u : Up K S H S' H') (e : ∀ o, H d = some o → H' d = some o) : PlainAt K S' H' d g coD := by
  obtain ⟨kv, pa, ak, co, h, r1, r2, r3, r4⟩ := a
  exact ⟨kv, pa, ak, co, e _ h, u _ _ r1, u _ _ r2, u _ _ r3, u _ _ r4⟩
theorem PSt.aft (s : PSt K S H0 p d n g coD G) (ne : p ≠ d) (a : Aft K S G p n' G') : PSt K S H0 p d n' g coD G' :=
  ⟨a.mem, a.pen, fun b o h1 h2 h3 => a.ex _ _ h1 (s.ex b o h1 h2 h3), s.dic.up a.up fun o h => a.ex _ _ (Ne.symm ne) h⟩
theorem PSt.grow (s : PSt K S H0 p d n g coD G) (e : Ex G G') : PSt K S H0 p d n g coD G' :=
  ⟨s.mem.ex e, s.pen.ex s.mem e, fun b o h1 h2 h3 => e _ _ (s.ex b o h1 h2 h3), s.dic.up (Up.ex s.mem e) fun o h => e _ _ h⟩
theorem PSt.le (s : PSt K S H0 p d n g coD G) (h : n ≤ n') : PSt K S H0 p d n' g coD G := ⟨s.mem, s.pen.le h, s.ex, s.dic⟩
/-- one more mutable object -/
theorem PSt.fresh (s : PSt K S H0 p d n g coD G) (ho : G o = none) (u : HO) : PSt K (plus S o) H0 p d n g coD (upd G o u) := by
  have eN : Ex G (upd G o u) := Evl.Ex.new ho
  have mm : Mem (plus S o) (upd G o u) := fun b h => by
    rcases h with h | h
    · obtain ⟨z, hz⟩ := s.mem b h
      exact ⟨z, eN _ _ hz⟩
    · exact ⟨_, by rw [h]; exact upd_same⟩
  have up1 : Up K S G (plus S o) (upd G o u) := fun v d r => (r.plus ho).mono ⟨fun a z _ h => eN _ _ h, mm⟩
  exact ⟨mm, s.pen.up up1 (fun z h => eN _ _ h) (.inl s.pen.1), fun b z h1 h2 h3 => eN _ _ (s.ex b z h1 h2 h3), s.dic.up up1 fun z h => eN _ _ h⟩
/-- another mutable object is written -/
theorem PSt.other (s : PSt K S H0 p d n g coD G) (hS : S o) (h1 : p ≠ o) (h2 : d ≠ o) (hn : H0 o = none) (u : HO) : PSt K S H0 p d n g coD (upd G o u) := by
  have put : ExS S G (upd G o u) := ExS.put s.mem hS
  refine ⟨put.mem, s.pen.put s.mem hS h1, fun b z g1 g2 g3 => ?_, s.dic.up (Up.exS put) fun z h => by rw [upd_ne h2]; exact h⟩
  rw [upd_ne (fun e => by rw [e, hn] at g3; cases g3)]
  exact s.ex b z g1 g2 g3
theorem PSt.less (s : PSt K S H0 p d n g coD G) (le : ∀ a, S' a → S a) (hp : S' p) : PSt K S' H0 p d n g coD G := by
  obtain ⟨kv, pa, ak, co, h, r1, r2, r3, r4⟩ := s.dic
  exact ⟨fun b z => s.mem b (le b z), s.pen.less le hp, s.ex, kv, pa, ak, co, h, r1.less le, r2.less le, r3.less le, r4.less le⟩
/-- the dict is written -/
theorem PSt.write (s : PSt K S H0 p d n g coD G) (hS : S d) (ne : p ≠ d) {g' : Hs} {coD' : D} {kv pa ak co : V} (r1 : Rp K S G kv (kindsD g'.kinds)) (r2 : Rp K S G pa (optD g'.pace)) (r3 : Rp K S G ak (strsT g'.asked)) (r4 : Rp K S G co coD') :
    PSt K S H0 p d n g' coD' (upd G d (.dK (plK (.int g'.cells) kv (.int g'.registers) (.int g'.live) (.str g'.rooms) pa (.str g'.need) (.bl g'.slide) ak co))) := by
  have put : ExS S G (upd G d (.dK (plK (.int g'.cells) kv (.int g'.registers) (.int g'.live) (.str g'.rooms) pa (.str g'.need) (.bl g'.slide) ak co))) := ExS.put s.mem hS
  refine ⟨put.mem, s.pen.put s.mem hS ne, fun b z g1 g2 g3 => ?_, kv, pa, ak, co, upd_same, r1.mono put, r2.mono put, r3.mono put, r4.mono put⟩
  rw [upd_ne g2]
  exact s.ex b z g1 g2 g3
theorem PlainAt.there (a : PlainAt K S H d g coD) : ∃ u, H d = some u := by
  obtain ⟨kv, pa, ak, co, h, _⟩ := a
  exact ⟨_, h⟩
/-! ### d[k] = v -/
theorem put_coll {c k r l ro pa ne sl ak co v : V} : putK (plK c k r l ro pa ne sl ak co) (.inr "collector") v = plK c k r l ro pa ne sl ak v := rfl
theorem put_pace {c k r l ro pa ne sl ak co v : V} : putK (plK c k r l ro pa ne sl ak co) (.inr "pace") v = plK c k r l ro v ne sl ak co := rfl
theorem put_slide {c k r l ro pa ne sl ak co v : V} : putK (plK c k r l ro pa ne sl ak co) (.inr "slide") v = plK c k r l ro pa ne v ak co := rfl
theorem put_rn {c k r l ro pa ne sl ak co v w : V} : mergeK (plK c k r l ro pa ne sl ak co) [(.inr "rooms", v), (.inr "need", w)] = plK c k r l v pa w sl ak co := rfl
theorem put_cr {c k r l ro pa ne sl ak co v w : V} : mergeK (plK c k r l ro pa ne sl ak co) [(.inr "collector", v), (.inr "rooms", w)] = plK c k r l w pa ne sl ak v := rfl
theorem put_two {a b : Str} {v w : V} (h : a ≠ b) : mergeK [] [((.inr a : Key), v), (.inr b, w)] = [((.inr a : Key), v), (.inr b, w)] := by
  show putK [((.inr a : Key), v)] (.inr b) w = _
  rw [putK_new]
  · rfl
  · intro q hq
    rw [List.mem_singleton.mp hq]
    exact fun z => h (by cases z; rfl)
/-- d["collector"] = v -/
theorem td_coll {te : TE} {D0 : Ends} {i : Nat} {coD' : D} {v : V} (s : PSt K S H0 p d n g coD G) (hS : S d) (ne : p ≠ d) (r : Rp K S G v coD') (k : ∀ G', PSt K S H0 p d n g coD' G' → D0.nx σ G') (hσ : σ[i]? = some (some (.ref d))) :
    tVar i σ G fun x H2 => tC (.str "collector") σ H2 fun y H3 => ∃ a H4, x = .ref a ∧ DPut H3 a y v H4 ∧ D0.nx σ H4 := by
  obtain ⟨kv, pa, ak, co, h, r1, r2, r3, r4⟩ := id s.dic
  exact ⟨.ref d, hσ, d, _, rfl, DPut.k (k := Sum.inr "collector") h (by rw [sizeLine_eq]; show 10 < _; omega), k _ (show PSt K S H0 p d n _ _ (upd G d (.dK (putK _ (.inr "collector") _))) from (s.write (coD' := coD') hS ne r1 r2 r3 r))⟩
theorem td_pace {D0 : Ends} {i : Nat} {o : Option Int} {v : V} (s : PSt K S H0 p d n g coD G) (hS : S d) (ne : p ≠ d) (r : Rp K S G v (optD o)) (k : ∀ G', PSt K S H0 p d n { g with pace := o } coD G' → D0.nx σ G') (hσ : σ[i]? = some (some (.ref d))) :
    tVar i σ G fun x H2 => tC (.str "pace") σ H2 fun y H3 => ∃ a H4, x = .ref a ∧ DPut H3 a y v H4 ∧ D0.nx σ H4 := by
  obtain ⟨kv, pa, ak, co, h, r1, r2, r3, r4⟩ := id s.dic
  exact ⟨.ref d, hσ, d, _, rfl, DPut.k (k := Sum.inr "pace") h (by rw [sizeLine_eq]; show 10 < _; omega), k _ (show PSt K S H0 p d n _ _ (upd G d (.dK (putK _ (.inr "pace") _))) from (s.write (g' := { g with pace := o }) hS ne r1 r r3 r4))⟩
theorem td_slide {D0 : Ends} {i : Nat} {b : Bool} (s : PSt K S H0 p d n g coD G) (hS : S d) (ne : p ≠ d) (k : ∀ G', PSt K S H0 p d n { g with slide := b } coD G' → D0.nx σ G') (hσ : σ[i]? = some (some (.ref d))) :
    tVar i σ G fun x H2 => tC (.str "slide") σ H2 fun y H3 => ∃ a H4, x = .ref a ∧ DPut H3 a y (.bl b) H4 ∧ D0.nx σ H4 := by
  obtain ⟨kv, pa, ak, co, h, r1, r2, r3, r4⟩ := id s.dic
  exact ⟨.ref d, hσ, d, _, rfl, DPut.k (k := Sum.inr "slide") h (by rw [sizeLine_eq]; show 10 < _; omega), k _ (show PSt K S H0 p d n _ _ (upd G d (.dK (putK _ (.inr "slide") _))) from (s.write (g' := { g with slide := b }) hS ne r1 r2 r3 r4))⟩
/-! ### d.update({..}) -/
theorem dic_ty (s : PSt K S H0 p d n g coD G) : tyV K "dict" (.ref d) G := by
  obtain ⟨kv, pa, ak, co, h, _⟩ := s.dic
  first
    | exact .inr (.inr (.inl ⟨rfl, .inl ⟨_, h⟩⟩))
    | exact .inr (.inr ⟨rfl, _, h⟩)
    | exact .inr (.inr (.inl ⟨rfl, _, .inl h⟩))
    | exact .inr (.inr ⟨rfl, _, .inl h⟩)
end
end Nv
set_option Elab.async false
set_option linter.all false
set_option maxRecDepth 100000
set_option maxHeartbeats 4000000
/-! Promises of the law's own defs: the updates. -/
namespace Nv
open PySem PySem.Spec PyProof.Rows L2 StX NvZ
def four : List Str := ["first", "last", "best", "worst"]
section
variable {K : PySem.W.Frag} {A : Ads} {S S' : Addr → Prop} {σ : L2.St} {H0 H H' H1 G G' : Hp} {E : XK} {p d o : Addr} {n n' : Nat} {g : Hs} {coD : D}
theorem tVar_intro {i : Nat} {v : V} {Q : VK} (h : σ[i]? = some (some v)) (q : Q v H) : tVar i σ H Q := ⟨v, h, q⟩
theorem tTup_intro {ta : TA} {Q : VK} (h : ta σ H fun vs H1 => vs.length ≤ sizeLine ∧ ∀ p, H1 p = none → Q (.ref p) (upd H1 p (.tup vs))) : tTup ta σ H Q := h
theorem tCons_intro {te : TE} {tr : TA} {Q : List V → Hp → Prop} (h : te σ H fun x H1 => tr σ H1 fun xs H2 => Q (x :: xs) H2) : tCons te tr σ H Q := h
/-- a pick of words -/
theorem ax_words {te : TE} {ws : List Str} {i : Nat} {Q : VK} (m : Mem S H) (hσ : σ[i]? = some (some (.ref p))) (hp : PenAt K S H p n) (hn : n ≤ 1000000) (h : EvD K S te σ H (.lst (ws.map D.str))) (h1 : 1 ≤ ws.length) (h2 : ws.length ≤ 1000)
    (q : ∀ w H', w ∈ ws → Aft K S H p (n + 1) H' → Q (.str w) H') : tCall (spPick K) [] E0 (tCons (tVar i) (tCons te tNil)) σ H Q :=
  ax_pick m hσ hp hn h (by rw [List.length_map]; exact h1) (by rw [List.length_map]; exact h2) fun e v H' he a r => by
    obtain ⟨w, hw, rfl⟩ := List.mem_map.mp he
    cases r
    exact q w H' hw a
abbrev tl6 : TE := tLst (tCons (tC (.str "first")) (tCons (tC (.str "last")) (tCons (tC (.str "best")) (tCons (tC (.str "worst")) (tCons (tC (.str "buddy")) (tCons (tC (.str "slots")) tNil))))))
abbrev tl4 : TE := tLst (tCons (tC (.str "first")) (tCons (tC (.str "last")) (tCons (tC (.str "best")) (tCons (tC (.str "worst")) tNil))))
abbrev tlN : TE := tLst (tCons (tC (.str "finish")) (tCons (tC (.str "refuse")) tNil))
theorem ev_l6 (m : Mem S H) : EvD K S tl6 σ H (.lst (lROOMS.map D.str)) := ev_lst m (ea_cons m ev_str (ea_cons m ev_str (ea_cons m ev_str (ea_cons m ev_str (ea_cons m ev_str (ea_cons m ev_str ea_nil)))))) (by decide)
theorem ev_l4 (m : Mem S H) : EvD K S tl4 σ H (.lst (four.map D.str)) := ev_lst m (ea_cons m ev_str (ea_cons m ev_str (ea_cons m ev_str (ea_cons m ev_str ea_nil)))) (by decide)
theorem ev_lN (m : Mem S H) : EvD K S tlN σ H (.lst (lNEEDS.map D.str)) := ev_lst m (ea_cons m ev_str (ea_cons m ev_str ea_nil)) (by decide)
/-- update rooms, need -/
theorem td_rn {D0 : Ends} (s : PSt K S H0 p d n g coD G) (hS : S d) (ne : p ≠ d) (hn : n ≤ 900000) (h0 : σ[0]? = some (some (.ref p))) (h6 : σ[6]? = some (some (.ref d)))
    (k : ∀ r w G', r ∈ lROOMS → w ∈ lNEEDS → PSt K S H0 p d (n + 2) { g with rooms := r, need := w } coD G' → D0.nx σ G') :
    tDrop (tBM K "dict" rDUpd (tVar 6) (tCons (tDisp [((tC (.str "rooms")), (tCall (spPick K) [] E0 (tCons (tVar 0) (tCons tl6 tNil)))), ((tC (.str "need")), (tCall (spPick K) [] E0 (tCons (tVar 0) (tCons tlN tNil))))]) tNil)) D0 σ G := by
  refine ⟨.ref d, h6, dic_ty s, fun o ho => ?_⟩
  have po : p ≠ o := fun z => by
    obtain ⟨u, hu⟩ := s.pen.there
    rw [z, ho] at hu; cases hu
  have dO : d ≠ o := fun z => by
    obtain ⟨u, hu⟩ := s.dic.there
    rw [z, ho] at hu; cases hu
  have hH0 : H0 o = none := by
    cases z : H0 o with
    | none => rfl
    | some u => rw [s.ex o u (Ne.symm po) (Ne.symm dO) z] at ho; cases ho
  have s1 := s.fresh ho (.dK [])
  have o1 : (upd G o (.dK [])) o = some (.dK []) := upd_same
  generalize upd G o (.dK []) = G1 at s1 o1
  refine tC_intro (ax_words s1.mem h0 s1.pen (by omega) (ev_l6 s1.mem) (by decide) (by decide) fun r G2 hr a2 => ?_)
  have s2 := s1.aft ne a2
  refine tC_intro (ax_words s2.mem h0 s2.pen (by omega) (ev_lN s2.mem) (by decide) (by decide) fun w G3 hw a3 => ?_)
  have s3 := s2.aft ne a3
  have o3 : G3 o = some (.dK []) := a3.ex _ _ (Ne.symm po) (a2.ex _ _ (Ne.symm po) o1)
  refine ⟨o3, [((.inr "rooms" : Key), .str r), (.inr "need", .str w)], rfl, by show 2 ≤ 15; decide, ?_⟩
  rw [put_two (by decide +kernel)]
  have s4 := s3.other (o := o) (.inr rfl) po dO hH0 (.dK [((.inr "rooms" : Key), .str r), (.inr "need", .str w)])
  have o4 : (upd G3 o (.dK [((.inr "rooms" : Key), .str r), (.inr "need", .str w)])) o = some (.dK [((.inr "rooms" : Key), .str r), (.inr "need", .str w)]) := upd_same
  generalize upd G3 o (.dK [((.inr "rooms" : Key), .str r), (.inr "need", .str w)]) = G4 at s4 o4
  obtain ⟨kv, pa, ak, co, h, r1, r2, r3, r4⟩ := id s4.dic
  have s5 := s4.write (g' := { g with rooms := r, need := w }) (.inl hS) ne r1 r2 r3 r4
  refine ⟨d, o, _, _, rfl, rfl, dO, h, o4, by rw [sizeLine_eq]; show 12 ≤ _; omega, ?_⟩
  rw [put_rn]
  exact k r w _ hr hw (s5.less (fun _ z => .inl z) s.pen.1)
/-- the cells of a drawn house -/
theorem ev_get {f : Str} {v : V} {e : D} {i : Nat} (s : PSt K S H0 p d n g coD G) (h6 : σ[i]? = some (some (.ref d))) (hv : ∀ kv pa ak co : V, valV (plK (.int g.cells) kv (.int g.registers) (.int g.live) (.str g.rooms) pa (.str g.need) (.bl g.slide) ak co) (.inr f) = some v) (r : Rp K S G v e) : EvD K S (tDGet (tVar i) (tC (.str f))) σ G e := by
  obtain ⟨kv, pa, ak, co, h, _⟩ := id s.dic
  exact ev_dget s.mem h6 h (hv kv pa ak co) r
abbrev tYoung (K : PySem.W.Frag) : TE := tTup (tCons (tVar 5) (tCons (tOp rAddI (tC (.int 1)) (tCall (spDraw K) [] E0 (tCons (tVar 0) (tCons (tOp rSubI (tDGet (tVar 6) (tC (.str "cells"))) (tC (.int 1))) tNil)))) (tCons (tCall (spPick K) [] E0 (tCons (tVar 0) (tCons (tLst (tCons (tC (.str "all")) (tCons (tC (.str "first")) (tCons (tC (.str "none")) tNil)))) tNil))) tNil)))
theorem td_young {D0 : Ends} (s : PSt K S H0 p d n g coD G) (hS : S d) (ne : p ≠ d) (hn : n ≤ 900000) (h0 : σ[0]? = some (some (.ref p))) (h5 : σ[5]? = some (some (.str "young"))) (h6 : σ[6]? = some (some (.ref d))) (hc1 : 2 ≤ g.cells) (hc2 : g.cells ≤ 12)
    (k : ∀ r z w G', r ∈ four → 1 ≤ z → z < g.cells → w ∈ lREMEMBERS → PSt K S H0 p d (n + 3) { g with rooms := r } (collD (.young z w)) G' → D0.nx σ G') :
    tDrop (tBM K "dict" rDUpd (tVar 6) (tCons (tDisp [((tC (.str "collector")), tYoung K), ((tC (.str "rooms")), (tCall (spPick K) [] E0 (tCons (tVar 0) (tCons tl4 tNil))))]) tNil)) D0 σ G := by
  refine ⟨.ref d, h6, dic_ty s, fun o ho => ?_⟩
  have po : p ≠ o := fun z => by
    obtain ⟨u, hu⟩ := s.pen.there
    rw [z, ho] at hu; cases hu
  have dO : d ≠ o := fun z => by
    obtain ⟨u, hu⟩ := s.dic.there
    rw [z, ho] at hu; cases hu
  have hH0 : H0 o = none := by
    cases z : H0 o with
    | none => rfl
    | some u => rw [s.ex o u (Ne.symm po) (Ne.symm dO) z] at ho; cases ho
  have s1 := s.fresh ho (.dK [])
  have o1 : (upd G o (.dK [])) o = some (.dK []) := upd_same
  generalize upd G o (.dK []) = G1 at s1 o1
  refine tC_intro (tTup_intro (tCons_intro (tVar_intro h5 (tCons_intro (ax_add (S := plus S o) (c := 1) (most := g.cells - 1) s1.mem h0 s1.pen (by omega) (ev_op s1.mem (ev_get (f := "cells") (v := .int g.cells) s1 h6 (fun _ _ _ _ => rfl) (.int _)) ev_int r_sub) (by omega) (by omega) fun z G2 z0 z1 a2 => ?_)))))
  have s2 := s1.aft ne a2
  refine tCons_intro (ax_words s2.mem h0 s2.pen (by omega) (ws := lREMEMBERS) (ev_lst s2.mem (ea_cons s2.mem ev_str (ea_cons s2.mem ev_str (ea_cons s2.mem ev_str ea_nil))) (by decide)) (by decide) (by decide) fun w G3 hw a3 => ?_)
  have s3 := s2.aft ne a3
  refine ⟨by rw [sizeLine_eq]; show 3 ≤ _; omega, fun t ht => ?_⟩
  have eN : Ex G3 (upd G3 t (.tup [.str "young", .int z, .str w])) := Evl.Ex.new ht
  have rt : Rp K (plus S o) (upd G3 t (.tup [.str "young", .int z, .str w])) (.ref t) (collD (.young z w)) := .newT s3.mem (.cons (.str _) (.cons (.int _) (.cons (.str _) .nil))) ht
  have s4 := s3.grow eN
  have o4 : (upd G3 t (.tup [.str "young", .int z, .str w])) o = some (.dK []) := eN _ _ (a3.ex _ _ (Ne.symm po) (a2.ex _ _ (Ne.symm po) o1))
  generalize upd G3 t (.tup [.str "young", .int z, .str w]) = G4 at rt s4 o4
  refine tC_intro (ax_words s4.mem h0 s4.pen (by omega) (ev_l4 s4.mem) (by decide) (by decide) fun r G5 hr a5 => ?_)
  have s5 := s4.aft ne a5
  have rt5 := a5.up _ _ rt
  have o5 : G5 o = some (.dK []) := a5.ex _ _ (Ne.symm po) o4
  refine ⟨o5, [((.inr "collector" : Key), .ref t), (.inr "rooms", .str r)], rfl, by show 2 ≤ 15; decide, ?_⟩
  rw [put_two (by decide +kernel)]
  have put : ExS (plus S o) G5 (upd G5 o (.dK [((.inr "collector" : Key), .ref t), (.inr "rooms", .str r)])) := ExS.put s5.mem (.inr rfl)
  have s6 := s5.other (o := o) (.inr rfl) po dO hH0 (.dK [((.inr "collector" : Key), .ref t), (.inr "rooms", .str r)])
  have rt6 := rt5.mono put
  have o6 : (upd G5 o (.dK [((.inr "collector" : Key), .ref t), (.inr "rooms", .str r)])) o = some (.dK [((.inr "collector" : Key), .ref t), (.inr "rooms", .str r)]) := upd_same
  generalize upd G5 o (.dK [((.inr "collector" : Key), .ref t), (.inr "rooms", .str r)]) = G6 at s6 o6 rt6
  obtain ⟨kv, pa, ak, co, h, r1, r2, r3, r4⟩ := id s6.dic
  have s7 := s6.write (g' := { g with rooms := r }) (coD' := collD (.young z w)) (.inl hS) ne r1 r2 r3 rt6
  refine ⟨d, o, _, _, rfl, rfl, dO, h, o6, by rw [sizeLine_eq]; show 12 ≤ _; omega, ?_⟩
  rw [put_cr]
  exact k r z w _ hr z0 (by omega) hw (s7.less (fun _ z => .inl z) s.pen.1)
end
end Nv
set_option Elab.async false
set_option linter.all false
set_option maxRecDepth 100000
set_option maxHeartbeats 4000000
/-! Promises of the law's own defs: _law_any_plain. -/
namespace Nv
open PySem PySem.Spec PyProof.Rows L2 StX NvZ
theorem wl_guards : WLotOk lGUARDS lGUARDS := ⟨fun _ h => h, by unfold lGUARDS ltS; decide +kernel, by decide⟩
theorem wl_breaks : WLotOk lBREAKS lBREAKS := ⟨fun _ h => h, by unfold lBREAKS ltS; decide +kernel, by decide⟩
/-- a drawn house before its collector is told -/
structure Base (g : Hs) : Prop where
  c1 : 2 ≤ g.cells
  c2 : g.cells ≤ 12
  k1 : 1 ≤ g.kinds.length
  k2 : g.kinds.length ≤ 3
  kinds : ∀ k ∈ g.kinds, KindOk (g.kinds.length : Nat) k
  r1 : 1 ≤ g.registers
  r2 : g.registers ≤ 4
  l1 : 1 ≤ g.live
  l2 : g.live ≤ 12
  asked : WLotOk lBREAKS g.asked
  swept : ("swept" : Str) ∈ g.asked
theorem Base.parts {g : Hs} (b : Base g) {c : Cl} (hc : CollOk c) (hr : g.rooms ∈ lROOMS) (hp : ∀ v, g.pace = some v → 0 ≤ v ∧ v ≤ 6) (hn : g.need ∈ lNEEDS) : PartsOk { g with coll := c } :=
  ⟨by have := b.c1; show 1 ≤ g.cells; omega, b.c2, b.k1, b.k2, b.kinds, b.r1, b.r2, b.l1, b.l2, hr, hc, hp, hn, b.asked, b.swept⟩
theorem mf3_of {h : Hs} (hw : ¬ wordC h.coll ∈ (["halves", "young"] : List Str)) : mf3 h = false := by
  unfold mf3
  rw [decide_eq_false hw, Bool.and_false]
theorem mf3_of' {h : Hs} (hn : h.need = "finish") : mf3 h = false := by
  unfold mf3
  rw [decide_eq_true hn]; rfl
theorem mf4_of {h : Hs} (hw : wordC h.coll ∈ (["counts", "marks"] : List Str)) (hs : h.slide = true → h.need = "finish") : mf4 h = false := by
  unfold mf4
  rw [decide_eq_true hw]
  cases hsl : h.slide with
  | false => rfl
  | true => rw [decide_eq_true (hs hsl)]; rfl
theorem mf1_of {h : Hs} (hw : ¬ wordC h.coll = "halves") (hr : h.rooms ∈ lROOMS.take 4) : mf1 h = false := by
  unfold mf1
  rw [decide_eq_false hw, decide_eq_true hr, Bool.not_true, Bool.and_false]; rfl
theorem fits_none {g : Hs} (hp : g.pace = some 0) (hs : g.slide = false) : Fits { g with coll := .none } := by
  have a1 : ¬ ("none" : Str) = "halves" := by decide +kernel
  have a2 : ¬ ("none" : Str) = "young" := by decide +kernel
  have a3 : ¬ ("none" : Str) ∈ (["halves", "young"] : List Str) := by decide +kernel
  refine ⟨?_, ?_, ?_, ?_, ?_⟩
  · simp [mf1, wordC, a1, a2]
  · simp [mf2, hp]
  · exact mf3_of a3
  · simp [mf4, hs]
  · simp [mf5, wordC, a1, a2]
theorem fits_halves {g : Hs} (hr : g.rooms = "first") (hp : g.pace = some 0) (hn : g.need = "finish") (hs : g.slide = false) (hc : 2 ≤ g.cells) : Fits { g with coll := .halves } := by
  have a2 : ¬ ("halves" : Str) = "young" := by decide +kernel
  have a4 : ¬ g.cells < 2 := by omega
  refine ⟨?_, ?_, ?_, ?_, ?_⟩
  · simp [mf1, wordC, a2, hr]
  · simp [mf2, hp]
  · exact mf3_of' hn
  · simp [mf4, hs]
  · simp [mf5, wordC, a2, a4]
theorem fits_counts {g : Hs} {m : Option Int} {o : Str} (hp : g.pace = some 0) (hs : g.slide = true → g.need = "finish") : Fits { g with coll := .counts m o } := by
  have a1 : ¬ ("counts" : Str) = "halves" := by decide +kernel
  have a2 : ¬ ("counts" : Str) = "young" := by decide +kernel
  have a3 : ¬ ("counts" : Str) ∈ (["halves", "young"] : List Str) := by decide +kernel
  have a4 : ("counts" : Str) ∈ (["counts", "marks"] : List Str) := by decide +kernel
  refine ⟨?_, ?_, ?_, ?_, ?_⟩
  · simp [mf1, wordC, a1, a2]
  · simp [mf2, hp]
  · exact mf3_of a3
  · exact mf4_of a4 hs
  · simp [mf5, wordC, a1, a2]
theorem fits_marks {g : Hs} {gs : List Str} (hs : g.slide = true → g.need = "finish") : Fits { g with coll := .marks gs } := by
  have a1 : ¬ ("marks" : Str) = "halves" := by decide +kernel
  have a2 : ¬ ("marks" : Str) = "young" := by decide +kernel
  have a3 : ¬ ("marks" : Str) ∈ (["halves", "young"] : List Str) := by decide +kernel
  have a4 : ("marks" : Str) ∈ (["counts", "marks"] : List Str) := by decide +kernel
  refine ⟨?_, ?_, ?_, ?_, ?_⟩
  · simp [mf1, wordC, a1, a2]
  · simp [mf2, wordC]
  · exact mf3_of a3
  · exact mf4_of a4 hs
  · simp [mf5, wordC, a1, a2]
theorem fits_young {g : Hs} {n : Int} {r : Str} (hr : g.rooms ∈ four) (hp : g.pace = some 0) (hn : g.need = "finish") (hs : g.slide = false) (hc : n < g.cells) : Fits { g with coll := .young n r } := by
  have a1 : ¬ ("young" : Str) = "halves" := by decide +kernel
  have a5 : g.rooms ∈ lROOMS.take 4 := hr
  have a4 : ¬ g.cells ≤ n := by omega
  refine ⟨?_, ?_, ?_, ?_, ?_⟩
  · exact mf1_of a1 a5
  · simp [mf2, hp]
  · exact mf3_of' hn
  · simp [mf4, hs]
  · simp [mf5, wordC, a1, yGe, a4]
section
variable {K : PySem.W.Frag} {A : Ads} {S S' : Addr → Prop} {σ : L2.St} {H0 H H' H1 G G' : Hp} {E : XK} {p d o : Addr} {n n' : Nat} {g : Hs} {coD : D}
theorem tin3 {te : TE} {w x y z : Str} (m : Mem S H) (h : EvD K S te σ H (.str w)) : EvB (tTest (tOp (rIn K false) te (tTup (tCons (tC (.str x)) (tCons (tC (.str y)) (tCons (tC (.str z)) tNil)))))) σ H (decide (w ∈ [x, y, z])) :=
  eb_T (ev_op m h (ev_tup (ds := [x, y, z].map D.str) m (ea_cons m ev_str (ea_cons m ev_str (ea_cons m ev_str ea_nil))) (by show 3 ≤ _; decide)) (r_inQ (neg := false) (.inr rfl)))
/-- an if that is not taken -/
theorem sk_if {t : TT} {u w : TS} {D0 : Ends} (s : PSt K S H0 p d n g coD G) (h : EvB t σ G false) (k : ∀ G', PSt K S H0 p d n g coD G' → w D0 σ G') : tSeq (tIfS t u tNext) w D0 σ G := ts_ifseq h fun G' e => by
  rw [if_neg Bool.false_ne_true]
  exact k G' (s.grow e)
theorem do_if {t : TT} {u w : TS} {D0 : Ends} (s : PSt K S H0 p d n g coD G) (h : EvB t σ G true) (k : ∀ G', PSt K S H0 p d n g coD G' → u { D0 with nx := w D0 } σ G') : tSeq (tIfS t u tNext) w D0 σ G := ts_ifseq h fun G' e => by
  rw [if_pos rfl]
  exact k G' (s.grow e)
theorem sDPut_intro {td ty tv : TE} {D0 : Ends} (h : tv σ H fun v H1 => td σ H1 fun x H2 => ty σ H2 fun y H3 => ∃ a H4, x = .ref a ∧ DPut H3 a y v H4 ∧ D0.nx σ H4) : sDPut td ty tv D0 σ H := h
theorem tOp_intro {r : R2} {ta tb : TE} {Q : VK} (h : ta σ H fun x H1 => tb σ H1 fun y H2 => r x y H2 Q) : tOp r ta tb σ H Q := h
abbrev tCounts (K : PySem.W.Frag) : TE := tTup (tCons (tVar 5) (tCons (tCall (spPick K) [] E0 (tCons (tVar 0) (tCons (tLst (tCons (tC .non) (tCons (tC (.int 1)) (tCons (tC (.int 2)) (tCons (tC (.int 3)) tNil))))) tNil))) (tCons (tCall (spPick K) [] E0 (tCons (tVar 0) (tCons (tLst (tCons (tC (.str "more")) (tCons (tC (.str "less")) tNil))) tNil))) tNil)))
/-- the collector of counts -/
theorem td_counts {D0 : Ends} (s : PSt K S H0 p d n g coD G) (hS : S d) (ne : p ≠ d) (hn : n ≤ 900000) (h0 : σ[0]? = some (some (.ref p))) (h5 : σ[5]? = some (some (.str "counts"))) (h6 : σ[6]? = some (some (.ref d)))
    (k : ∀ m o G', CollOk (.counts m o) → PSt K S H0 p d (n + 2) g (collD (.counts m o)) G' → D0.nx σ G') : sDPut (tVar 6) (tC (.str "collector")) (tCounts K) D0 σ G := by
  refine sDPut_intro (tTup_intro (tCons_intro (tVar_intro h5 (tCons_intro (ax_pick (i := 0) (ds := [.non, .int 1, .int 2, .int 3]) s.mem h0 s.pen (by omega) (ev_lst s.mem (ea_cons s.mem ev_non (ea_cons s.mem ev_int (ea_cons s.mem ev_int (ea_cons s.mem ev_int ea_nil)))) (by show 4 ≤ _; decide)) (by show 1 ≤ 4; decide) (by show 4 ≤ 1000; decide) fun e v G1 he a1 r1 => ?_)))))
  have s1 := s.aft ne a1
  refine tCons_intro (ax_words (i := 0) (ws := lORDERS) s1.mem h0 s1.pen (by omega) (ev_lst s1.mem (ea_cons s1.mem ev_str (ea_cons s1.mem ev_str ea_nil)) (by decide)) (by decide) (by decide) fun o G2 ho a2 => ?_)
  have s2 := s1.aft ne a2
  have r2 := a2.up _ _ r1
  obtain ⟨mo, rfl, hm⟩ : ∃ mo : Option Int, e = optD mo ∧ ∀ v, mo = some v → 1 ≤ v ∧ v ≤ 3 := by
    have : e = .non ∨ e = .int 1 ∨ e = .int 2 ∨ e = .int 3 := by simpa using he
    rcases this with rfl | rfl | rfl | rfl
    · exact ⟨none, rfl, fun v z => by cases z⟩
    · exact ⟨some 1, rfl, fun v z => by cases z; decide⟩
    · exact ⟨some 2, rfl, fun v z => by cases z; decide⟩
    · exact ⟨some 3, rfl, fun v z => by cases z; decide⟩
  refine ⟨by rw [sizeLine_eq]; show 3 ≤ _; omega, fun t ht => ?_⟩
  have rt : Rp K S (upd G2 t (.tup [.str "counts", v, .str o])) (.ref t) (collD (.counts mo o)) := .newT s2.mem (.cons (.str _) (.cons r2 (.cons (.str _) .nil))) ht
  have s3 := s2.grow (Evl.Ex.new (o := .tup [.str "counts", v, .str o]) ht)
  exact td_coll (te := tVar 0) s3 hS ne rt (fun G' s' => k mo o G' ⟨hm, ho⟩ s') h6
abbrev tMarks (K : PySem.W.Frag) : TE := tTup (tCons (tVar 5) (tCons (tCB (rTupOf K) (tCons (tCall (spLLot K) [] E0 (tCons (tVar 0) (tCons (tLst (tCons (tC (.str "after")) (tCons (tC (.str "again")) (tCons (tC (.str "before")) (tCons (tC (.str "black")) (tCons (tC (.str "load")) tNil)))))) (tCons (tC (.int 2)) tNil)))) tNil)) tNil))
theorem td_marks {D0 : Ends} (s : PSt K S H0 p d n g coD G) (hS : S d) (ne : p ≠ d) (hn : n ≤ 900000) (h0 : σ[0]? = some (some (.ref p))) (h5 : σ[5]? = some (some (.str "marks"))) (h6 : σ[6]? = some (some (.ref d)))
    (k : ∀ gs G', CollOk (.marks gs) → PSt K S H0 p d (n + 21) g (collD (.marks gs)) G' → D0.nx σ G') : sDPut (tVar 6) (tC (.str "collector")) (tMarks K) D0 σ G := by
  refine sDPut_intro (tTup_intro (tCons_intro (tVar_intro h5 (tCons_intro (tCB_intro (ax_lot (i := 0) (many := 2) (ds := lGUARDS.map D.str) s.mem h0 s.pen (by omega) (ev_lst s.mem (ea_cons s.mem ev_str (ea_cons s.mem ev_str (ea_cons s.mem ev_str (ea_cons s.mem ev_str (ea_cons s.mem ev_str ea_nil))))) (by show 5 ≤ _; decide)) (.inl rfl) (by decide) ev_int (by decide) (by decide) fun v es G1 hsub a1 r1 => ?_))))))
  obtain ⟨gs, rfl, hgs⟩ := sub_strs hsub
  refine ra_tup a1.mem G1 (Evl.Ex.refl _) _ (.cons r1 .nil) _ fun v2 G2 e2 r2 => ?_
  have a2 := a1.grow e2
  have s2 := s.aft ne a2
  refine ⟨by rw [sizeLine_eq]; show 2 ≤ _; omega, fun t ht => ?_⟩
  have rt : Rp K S (upd G2 t (.tup [.str "marks", v2])) (.ref t) (collD (.marks gs)) := .newT s2.mem (.cons (.str _) (.cons r2 .nil)) ht
  have s3 := s2.grow (Evl.Ex.new (o := .tup [.str "marks", v2]) ht)
  exact td_coll (te := tVar 0) s3 hS ne rt (fun G' s' => k gs G' (wlot_sub wl_guards hgs) s') h6
abbrev tPaceP (K : PySem.W.Frag) : TE := tCall (spPick K) [] E0 (tCons (tVar 0) (tCons (tLst (tCons (tC .non) (tCons (tC (.int 0)) (tCons (tC (.int 1)) (tCons (tC (.int 2)) (tCons (tC (.int 3)) (tCons (tC (.int 4)) (tCons (tC (.int 5)) (tCons (tC (.int 6)) tNil))))))))) tNil))
theorem td_paceP {D0 : Ends} (s : PSt K S H0 p d n g coD G) (hS : S d) (ne : p ≠ d) (hn : n ≤ 900000) (h0 : σ[0]? = some (some (.ref p))) (h6 : σ[6]? = some (some (.ref d)))
    (k : ∀ o G', (∀ v, o = some v → 0 ≤ v ∧ v ≤ 6) → PSt K S H0 p d (n + 1) { g with pace := o } coD G' → D0.nx σ G') : sDPut (tVar 6) (tC (.str "pace")) (tPaceP K) D0 σ G := by
  refine sDPut_intro (ax_pick (i := 0) (ds := [.non, .int 0, .int 1, .int 2, .int 3, .int 4, .int 5, .int 6]) s.mem h0 s.pen (by omega) (ev_lst s.mem (ea_cons s.mem ev_non (ea_cons s.mem ev_int (ea_cons s.mem ev_int (ea_cons s.mem ev_int (ea_cons s.mem ev_int (ea_cons s.mem ev_int (ea_cons s.mem ev_int (ea_cons s.mem ev_int ea_nil)))))))) (by show 8 ≤ _; decide)) (by show 1 ≤ 8; decide) (by show 8 ≤ 1000; decide) fun e v G1 he a1 r1 => ?_)
  have s1 := s.aft ne a1
  obtain ⟨mo, rfl, hm⟩ : ∃ mo : Option Int, e = optD mo ∧ ∀ v, mo = some v → 0 ≤ v ∧ v ≤ 6 := by
    have : e = .non ∨ e = .int 0 ∨ e = .int 1 ∨ e = .int 2 ∨ e = .int 3 ∨ e = .int 4 ∨ e = .int 5 ∨ e = .int 6 := by simpa using he
    rcases this with rfl | rfl | rfl | rfl | rfl | rfl | rfl | rfl
    · exact ⟨none, rfl, fun v z => by cases z⟩
    all_goals exact ⟨some _, rfl, fun v z => by cases z; decide⟩
  exact td_pace s1 hS ne r1 (fun G' s' => k mo G' hm s') h6
abbrev tSlideP (K : PySem.W.Frag) : TE := tOp (rEqD K) (tCall (spDraw K) [] E0 (tCons (tVar 0) (tCons (tC (.int 2)) tNil))) (tC (.int 0))
theorem td_slideP {D0 : Ends} (s : PSt K S H0 p d n g coD G) (hS : S d) (ne : p ≠ d) (hn : n ≤ 900000) (h0 : σ[0]? = some (some (.ref p))) (h6 : σ[6]? = some (some (.ref d)))
    (k : ∀ b G', PSt K S H0 p d (n + 1) { g with slide := b } coD G' → D0.nx σ G') : sDPut (tVar 6) (tC (.str "slide")) (tSlideP K) D0 σ G := by
  refine sDPut_intro (tOp_intro (ax_draw (i := 0) s.mem h0 s.pen (by omega) (ev_int (i := 2)) (by decide) (by decide) fun z G1 z0 z1 a1 => tC_intro ?_))
  refine r_eqD (K := K) (S := S) (H := G1) (d1 := .int z) (d2 := .int 0) rfl rfl (Nat.zero_le _) (Nat.zero_le _) G1 (Evl.Ex.refl _) _ _ (.int z) (.int 0) _ fun v5 G2 e2 r2 => ?_
  cases r2
  have s2 := s.aft ne (a1.grow e2)
  exact td_slide s2 hS ne (fun G' s' => k _ G' s') h6
end
end Nv
set_option Elab.async false
set_option linter.all false
set_option maxRecDepth 100000
set_option maxHeartbeats 4000000
/-! Promises of the law's own defs: _law_any_plain, whole. -/
namespace Nv
open PySem PySem.Spec PyProof.Rows L2 StX NvZ
section
variable {K : PySem.W.Frag} {A : Ads} {S S' : Addr → Prop} {σ : L2.St} {H0 H H' H1 G G' : Hp} {E : XK} {p d o : Addr} {n n' : Nat} {g : Hs} {coD : D}
abbrev tIfs (K : PySem.W.Frag) : TS :=
  tSeq (tIfS (tTest (tOp (rIn K false) (tVar 5) (tTup (tCons (tC (.str "none")) (tCons (tC (.str "counts")) (tCons (tC (.str "marks")) tNil)))))) (tDrop (tBM K "dict" rDUpd (tVar 6) (tCons (tDisp [((tC (.str "rooms")), (tCall (spPick K) [] E0 (tCons (tVar 0) (tCons tl6 tNil)))), ((tC (.str "need")), (tCall (spPick K) [] E0 (tCons (tVar 0) (tCons tlN tNil))))]) tNil))) tNext)
  (tSeq (tIfS (tTest (tOp (rEqD K) (tVar 5) (tC (.str "counts")))) (sDPut (tVar 6) (tC (.str "collector")) (tCounts K)) tNext)
  (tSeq (tIfS (tTest (tOp (rEqD K) (tVar 5) (tC (.str "marks")))) (tSeq (sDPut (tVar 6) (tC (.str "collector")) (tMarks K)) (sDPut (tVar 6) (tC (.str "pace")) (tPaceP K))) tNext)
  (tSeq (tIfS (tAnd (tTest (tOp (rIn K false) (tVar 5) (tTup (tCons (tC (.str "counts")) (tCons (tC (.str "marks")) tNil))))) (tTest (tOp (rEqD K) (tDGet (tVar 6) (tC (.str "need"))) (tC (.str "finish"))))) (sDPut (tVar 6) (tC (.str "slide")) (tSlideP K)) tNext)
  (tSeq (tIfS (tTest (tOp (rEqD K) (tVar 5) (tC (.str "young")))) (tDrop (tBM K "dict" rDUpd (tVar 6) (tCons (tDisp [((tC (.str "collector")), tYoung K), ((tC (.str "rooms")), (tCall (spPick K) [] E0 (tCons (tVar 0) (tCons tl4 tNil))))]) tNil))) tNext)
  (tRet (tVar 6))))))
theorem any_ifs {w : Str} {D0 : Ends} (s : PSt K S H0 p d n g (.tup [.str w]) G) (hS : S d) (ne : p ≠ d) (hn : n ≤ 800000) (h0 : σ[0]? = some (some (.ref p))) (h5 : σ[5]? = some (some (.str w))) (h6 : σ[6]? = some (some (.ref d))) (hw : w ∈ lCOLLECTORS) (b : Base g) (hr : g.rooms = "first") (hp : g.pace = some 0) (hnd : g.need = "finish") (hsl : g.slide = false)
    (k : ∀ h G', PartsOk h → Fits h → PSt K S H0 p d (n + 40) h (collD h.coll) G' → D0.rt (.ref d) G') : tIfs K D0 σ G := by
  have wok : PyData.strOk w = true := mem_ok (l := lCOLLECTORS) (by decide +kernel) hw
  have v5 : ∀ {G' : Hp}, Mem S G' → EvD K S (tVar 5) σ G' (.str w) := fun m => ev_var (i := 5) m h5 (.str w)
  have t1 : ∀ {G' : Hp}, Mem S G' → EvB _ σ G' (decide (w ∈ (["none", "counts", "marks"] : List Str))) := fun m => tin3 m (v5 m)
  have t2 : ∀ {G' : Hp}, Mem S G' → EvB _ σ G' (decide (w = "counts")) := fun m => teq m (v5 m) wok (by decide +kernel)
  have t3 : ∀ {G' : Hp}, Mem S G' → EvB _ σ G' (decide (w = "marks")) := fun m => teq m (v5 m) wok (by decide +kernel)
  have t5 : ∀ {G' : Hp}, Mem S G' → EvB _ σ G' (decide (w = "young")) := fun m => teq m (v5 m) wok (by decide +kernel)
  have t4a : ∀ {G' : Hp}, Mem S G' → EvB _ σ G' (decide (w ∈ (["counts", "marks"] : List Str))) := fun m => tin2 (neg := false) m (v5 m)
  have t4b : ∀ {G' : Hp} {n' : Nat} {g' : Hs} {co' : D}, PSt K S H0 p d n' g' co' G' → g'.need ∈ lNEEDS → EvB _ σ G' (decide (g'.need = "finish")) := fun s' hm => teq s'.mem (ev_get (f := "need") (v := .str _) s' h6 (fun _ _ _ _ => rfl) (.str _)) (mem_ok (l := lNEEDS) (by decide +kernel) hm) (by decide +kernel)
  -- the answer
  have fin : ∀ {n' : Nat} {g' : Hs} {c : Cl} {G' : Hp}, n' ≤ n + 40 → PSt K S H0 p d n' g' (collD c) G' → PartsOk { g' with coll := c } → Fits { g' with coll := c } → tRet (tVar 6) D0 σ G' := fun hn' s' P F => ⟨.ref d, h6, k _ _ P F ⟨s'.mem, s'.pen.le hn', s'.ex, s'.dic⟩⟩
  have four_rooms : ∀ r ∈ four, r ∈ lROOMS := by decide +kernel
  -- what follows the third if, where the collector may slide
  have slideT : ∀ {n' : Nat} {g' : Hs} {c : Cl} {G' : Hp}, n' ≤ n + 30 → w ∈ (["counts", "marks"] : List Str) → ¬ w = "young" → PSt K S H0 p d n' g' (collD c) G' → g'.need ∈ lNEEDS → g'.slide = false → (∀ b', (b' = true → g'.need = "finish") → PartsOk { g' with slide := b', coll := c } ∧ Fits { g' with slide := b', coll := c }) →
      (tSeq (tIfS (tAnd (tTest (tOp (rIn K false) (tVar 5) (tTup (tCons (tC (.str "counts")) (tCons (tC (.str "marks")) tNil))))) (tTest (tOp (rEqD K) (tDGet (tVar 6) (tC (.str "need"))) (tC (.str "finish"))))) (sDPut (tVar 6) (tC (.str "slide")) (tSlideP K)) tNext)
      (tSeq (tIfS (tTest (tOp (rEqD K) (tVar 5) (tC (.str "young")))) (tDrop (tBM K "dict" rDUpd (tVar 6) (tCons (tDisp [((tC (.str "collector")), tYoung K), ((tC (.str "rooms")), (tCall (spPick K) [] E0 (tCons (tVar 0) (tCons tl4 tNil))))]) tNil))) tNext)
      (tRet (tVar 6)))) D0 σ G' := fun {n' g' c G'} hn' hw4 hwy s' hnd' hsl' hPF => by
    have test : EvB _ σ G' (decide (g'.need = "finish")) := (eb_and (t4a s'.mem) fun _ => t4b s' hnd').is (by rw [decide_eq_true hw4, Bool.true_and])
    by_cases hf : g'.need = "finish"
    · rw [decide_eq_true hf] at test
      refine do_if s' test fun G1 s1 => td_slideP s1 hS ne (by omega) h0 h6 fun b' G2 s2 => ?_
      refine sk_if s2 ((t5 s2.mem).is (decide_eq_false hwy)) fun G3 s3 => ?_
      obtain ⟨P, F⟩ := hPF b' fun _ => hf
      exact fin (by omega) s3 P F
    · rw [decide_eq_false hf] at test
      refine sk_if s' test fun G1 s1 => ?_
      refine sk_if s1 ((t5 s1.mem).is (decide_eq_false hwy)) fun G3 s3 => ?_
      obtain ⟨P, F⟩ := hPF false fun z => by cases z
      have e : g' = { g' with slide := false } := by rw [← hsl']
      exact fin (g' := { g' with slide := false }) (by omega) (e ▸ s3) P F
  have hw5 : w = "none" ∨ w = "counts" ∨ w = "marks" ∨ w = "halves" ∨ w = "young" := by simpa [lCOLLECTORS] using hw
  have nd_fin : ("finish" : Str) ∈ lNEEDS := by decide +kernel
  rcases hw5 with rfl | rfl | rfl | rfl | rfl
  · refine do_if s ((t1 s.mem).is (decide_eq_true (by decide +kernel))) fun G1 s1 => td_rn s1 hS ne (by omega) h0 h6 fun r w2 G2 hr2 hw2 s2 => ?_
    refine sk_if s2 ((t2 s2.mem).is (decide_eq_false (by decide +kernel))) fun G3 s3 => ?_
    refine sk_if s3 ((t3 s3.mem).is (decide_eq_false (by decide +kernel))) fun G4 s4 => ?_
    refine sk_if s4 ((eb_and (t4a s4.mem) fun _ => t4b s4 hw2).is (by rw [decide_eq_false (show ¬ ("none" : Str) ∈ (["counts", "marks"] : List Str) by decide +kernel), Bool.false_and])) fun G5 s5 => ?_
    refine sk_if s5 ((t5 s5.mem).is (decide_eq_false (by decide +kernel))) fun G6 s6 => ?_
    have b' : Base { g with rooms := r, need := w2 } := ⟨b.c1, b.c2, b.k1, b.k2, b.kinds, b.r1, b.r2, b.l1, b.l2, b.asked, b.swept⟩
    exact fin (c := .none) (by omega) s6 (b'.parts trivial hr2 (fun v e => by have e' : g.pace = some v := e; rw [hp] at e'; cases e'; decide) hw2) (fits_none hp hsl)
  · refine do_if s ((t1 s.mem).is (decide_eq_true (by decide +kernel))) fun G1 s1 => td_rn s1 hS ne (by omega) h0 h6 fun r w2 G2 hr2 hw2 s2 => ?_
    refine do_if s2 ((t2 s2.mem).is (decide_eq_true rfl)) fun G3 s3 => td_counts s3 hS ne (by omega) h0 h5 h6 fun m o G4 ok s4 => ?_
    refine sk_if s4 ((t3 s4.mem).is (decide_eq_false (by decide +kernel))) fun G5 s5 => ?_
    have b' : ∀ b2, Base { g with rooms := r, need := w2, slide := b2 } := fun b2 => ⟨b.c1, b.c2, b.k1, b.k2, b.kinds, b.r1, b.r2, b.l1, b.l2, b.asked, b.swept⟩
    exact slideT (c := .counts m o) (by omega) (by decide +kernel) (by decide +kernel) s5 hw2 hsl fun b2 hb2 => ⟨(b' b2).parts ok hr2 (fun v e => by have e' : g.pace = some v := e; rw [hp] at e'; cases e'; decide) hw2, fits_counts (g := { g with rooms := r, need := w2, slide := b2 }) hp hb2⟩
  · refine do_if s ((t1 s.mem).is (decide_eq_true (by decide +kernel))) fun G1 s1 => td_rn s1 hS ne (by omega) h0 h6 fun r w2 G2 hr2 hw2 s2 => ?_
    refine sk_if s2 ((t2 s2.mem).is (decide_eq_false (by decide +kernel))) fun G3 s3 => ?_
    refine do_if s3 ((t3 s3.mem).is (decide_eq_true rfl)) fun G4 s4 => td_seq' (td_marks s4 hS ne (by omega) h0 h5 h6 fun gs G5 ok s5 => td_paceP s5 hS ne (by omega) h0 h6 fun pc G6 hpc s6 => ?_)
    have b' : ∀ b2, Base { g with rooms := r, need := w2, pace := pc, slide := b2 } := fun b2 => ⟨b.c1, b.c2, b.k1, b.k2, b.kinds, b.r1, b.r2, b.l1, b.l2, b.asked, b.swept⟩
    exact slideT (c := .marks gs) (by omega) (by decide +kernel) (by decide +kernel) s6 hw2 hsl fun b2 hb2 => ⟨(b' b2).parts ok hr2 hpc hw2, fits_marks (g := { g with rooms := r, need := w2, pace := pc, slide := b2 }) hb2⟩
  · refine sk_if s ((t1 s.mem).is (decide_eq_false (by decide +kernel))) fun G1 s1 => ?_
    refine sk_if s1 ((t2 s1.mem).is (decide_eq_false (by decide +kernel))) fun G3 s3 => ?_
    refine sk_if s3 ((t3 s3.mem).is (decide_eq_false (by decide +kernel))) fun G4 s4 => ?_
    refine sk_if s4 ((eb_and (t4a s4.mem) fun _ => t4b s4 (by rw [hnd]; exact nd_fin)).is (by rw [decide_eq_false (show ¬ ("halves" : Str) ∈ (["counts", "marks"] : List Str) by decide +kernel), Bool.false_and])) fun G5 s5 => ?_
    refine sk_if s5 ((t5 s5.mem).is (decide_eq_false (by decide +kernel))) fun G6 s6 => ?_
    exact fin (c := .halves) (by omega) s6 (b.parts trivial (by rw [hr]; decide +kernel) (fun v e => by rw [hp] at e; cases e; decide) (by rw [hnd]; exact nd_fin)) (fits_halves hr hp hnd hsl b.c1)
  · refine sk_if s ((t1 s.mem).is (decide_eq_false (by decide +kernel))) fun G1 s1 => ?_
    refine sk_if s1 ((t2 s1.mem).is (decide_eq_false (by decide +kernel))) fun G3 s3 => ?_
    refine sk_if s3 ((t3 s3.mem).is (decide_eq_false (by decide +kernel))) fun G4 s4 => ?_
    refine sk_if s4 ((eb_and (t4a s4.mem) fun _ => t4b s4 (by rw [hnd]; exact nd_fin)).is (by rw [decide_eq_false (show ¬ ("young" : Str) ∈ (["counts", "marks"] : List Str) by decide +kernel), Bool.false_and])) fun G5 s5 => ?_
    refine do_if s5 ((t5 s5.mem).is (decide_eq_true rfl)) fun G6 s6 => td_young s6 hS ne (by omega) h0 h5 h6 b.c1 b.c2 fun r z w2 G7 hr7 z0 z1 hw7 s7 => ?_
    have b' : Base { g with rooms := r } := ⟨b.c1, b.c2, b.k1, b.k2, b.kinds, b.r1, b.r2, b.l1, b.l2, b.asked, b.swept⟩
    have := b.c2
    exact fin (c := .young z w2) (by omega) s7 (b'.parts ⟨⟨z0, by omega⟩, hw7⟩ (four_rooms r hr7) (fun v e => by have e' : g.pace = some v := e; rw [hp] at e'; cases e'; decide) (by show g.need ∈ lNEEDS; rw [hnd]; exact nd_fin)) (fits_young (g := { g with rooms := r }) hr7 hp hnd hsl z1)
end
end Nv
set_option Elab.async false
set_option linter.all false
set_option maxRecDepth 100000
set_option maxHeartbeats 4000000
/-! Promises of the law's own defs: _law_any_plain, whole. -/
namespace Nv
open PySem PySem.Spec PyProof.Rows L2 StX NvZ
section
variable {K : PySem.W.Frag} {A : Ads} {S S' : Addr → Prop} {σ : L2.St} {H0 H H' H1 G G' : Hp} {E : XK} {p d o : Addr} {n n' : Nat} {g : Hs} {coD : D}
theorem tDisp_intro {trs : List (TE × TE)} {Q : VK} (h : ∀ p, H p = none → tPairs trs σ (upd H p (.dK [])) fun ps H2 => H2 p = some (.dK []) ∧ ∃ kvs : List (Key × V), ps = kvs.map (fun kv => (kV kv.1, kv.2)) ∧ kvs.length ≤ 15 ∧ Q (.ref p) (upd H2 p (.dK (mergeK [] kvs)))) : tDisp trs σ H Q := h
def pl8 (c k r l ro pa ne sl : V) : List (Key × V) := [(.inr "cells", c), (.inr "kinds", k), (.inr "registers", r), (.inr "live", l), (.inr "rooms", ro), (.inr "pace", pa), (.inr "need", ne), (.inr "slide", sl)]
theorem merge8 {c k r l ro pa ne sl : V} : mergeK [] (pl8 c k r l ro pa ne sl) = pl8 c k r l ro pa ne sl := rfl
theorem put89 {c k r l ro pa ne sl ak co : V} : putK (putK (pl8 c k r l ro pa ne sl) (.inr "asked") ak) (.inr "collector") co = plK c k r l ro pa ne sl ak co := rfl
def spAnyP (K : PySem.W.Frag) : Sp := fun vs H Q _ => ∃ S p n, vs = [.ref p] ∧ Mem S H ∧ PenAt K S H p n ∧ n ≤ 50000 ∧ ∀ h d G, PartsOk h → Fits h → Ex1 p H G → H d = none → Mem S G → PenAt K S G p (n + 500) → ¬ S d → PlainAt K S G d h (collD h.coll) → Q (.ref d) G
theorem pr_anyp (vs : List V) (H : Hp) (Q : VK) (E : XK) (hh : spAnyP K vs H Q E) : t_law_any_plain K A E (spDraw K) (spLLot K) (spPick K) { nx := fun _ H' => Q .non H', rt := Q } (start ["pen", "many", "kinds", "one", "size", "word", "house", "link"] vs) H := by
  obtain ⟨S, p, n, rfl, m, hp, hn, k⟩ := hh
  show t_law_any_plain K A E (spDraw K) (spLLot K) (spPick K) { nx := fun _ H' => Q .non H', rt := Q } [some (.ref p), none, none, none, none, none, none, none] H
  refine ts_setk (ax_add (i := 0) (c := 1) m rfl hp (by omega) (ev_int (i := 3)) (by decide) (by decide) fun many H1 m0 m1 a1 => ?_)
  refine ts_newL (K := K) (i := 2) (S := S) (ds := []) a1.mem ea_nil (Nat.zero_le _) fun kd us H2 hk e2 mm2 U2 hkd rkd => ?_
  have hus : us = [] := by cases rkd; rfl
  subst hus
  have pk : p ≠ kd := fun z => by
    obtain ⟨o, ho⟩ := a1.pen.there
    rw [z, hk] at ho; cases ho
  have hkH : H kd = none := by
    cases z : H kd with
    | none => rfl
    | some o => rw [a1.ex _ o (Ne.symm pk) z] at hk; cases hk
  have p2 : PenAt K (plus S kd) H2 p (n + 1) := a1.pen.up U2 (fun o h => e2 _ _ h) (.inl a1.pen.1)
  refine td_seq' (ax_kinds mm2 p2 (by omega) (.inr rfl) pk hkd m0 (by omega) fun a b ks vs2 H3 hlen hok mm3 U3 p3 x3 hk3 rA3 => ?_)
  have hml : many = ((ks.length : Nat) : Int) := by omega
  -- the word
  refine ts_setk (ax_words (i := 0) (ws := lCOLLECTORS) mm3 rfl p3 (by omega) (ev_lst mm3 (ea_cons mm3 ev_str (ea_cons mm3 ev_str (ea_cons mm3 ev_str (ea_cons mm3 ev_str (ea_cons mm3 ev_str ea_nil))))) (by show 5 ≤ _; decide)) (by decide) (by decide) fun w H4 hw a4 => ?_)
  have hk4 : H4 kd = some (.lst vs2) := a4.ex _ _ (Ne.symm pk) hk3
  have rA4 := a4.up.arr rA3
  have x4 : ∀ b o, b ≠ p → H b = some o → H4 b = some o := fun b' o h1 h2 => by
    have nk : b' ≠ kd := fun z => by rw [z, hkH] at h2; cases h2
    exact a4.ex _ _ h1 (x3 _ _ h1 nk (e2 _ _ (a1.ex _ _ h1 h2)))
  -- the dict
  refine ts_setk (tDisp_intro fun d hd => ?_)
  have pd : p ≠ d := fun z => by
    obtain ⟨o, ho⟩ := a4.pen.there
    rw [z, hd] at ho; cases ho
  have kdd : kd ≠ d := fun z => by rw [← z, hk4] at hd; cases hd
  have hdH : H d = none := by
    cases z : H d with
    | none => rfl
    | some o => rw [x4 _ o (Ne.symm pd) z] at hd; cases hd
  have eN : Ex H4 (upd H4 d (.dK [])) := Evl.Ex.new hd
  have mm5 : Mem (plus (plus S kd) d) (upd H4 d (.dK [])) := fun b' s => by
    rcases s with s | s
    · obtain ⟨o, h⟩ := a4.mem b' s
      exact ⟨o, eN _ _ h⟩
    · exact ⟨_, by rw [s]; exact upd_same⟩
  have up5 : Up K (plus S kd) H4 (plus (plus S kd) d) (upd H4 d (.dK [])) := fun v d' r => (r.plus hd).mono ⟨fun a o _ h => eN _ _ h, mm5⟩
  have p5 : PenAt K (plus (plus S kd) d) (upd H4 d (.dK [])) p (n + 1 + 300 + 1) := a4.pen.up up5 (fun o h => eN _ _ h) (.inl a4.pen.1)
  have k5 : (upd H4 d (.dK [])) kd = some (.lst vs2) := eN _ _ hk4
  have d5 : (upd H4 d (.dK [])) d = some (.dK []) := upd_same
  have rA5 := up5.arr rA4
  have x5 : ∀ b o, b ≠ p → H b = some o → (upd H4 d (.dK [])) b = some o := fun b' o h1 h2 => eN _ _ (x4 b' o h1 h2)
  generalize upd H4 d (.dK []) = H5 at mm5 p5 k5 d5 rA5 x5
  refine tC_intro (ax_add (i := 0) (c := 2) mm5 rfl p5 (by omega) (ev_int (i := 11)) (by decide) (by decide) fun cells H6 c0 c1 a6 => ?_)
  have k6 : H6 kd = some (.lst vs2) := a6.ex _ _ (Ne.symm pk) k5
  have d6 : H6 d = some (.dK []) := a6.ex _ _ (Ne.symm pd) d5
  have rA6 := a6.up.arr rA5
  refine tC_intro (tCB_intro (tVar_intro rfl ⟨kd, vs2, rfl, .inl ⟨.inl (.inl k6), fun kt hkt => ?_⟩⟩))
  have eT : Ex H6 (upd H6 kt (.tup vs2)) := Evl.Ex.new hkt
  have rK : Rp K (plus (plus S kd) d) (upd H6 kt (.tup vs2)) (.ref kt) (kindsD ks) := .newT a6.mem rA6 hkt
  have a7 := a6.grow eT
  have d7 : (upd H6 kt (.tup vs2)) d = some (.dK []) := eT _ _ d6
  generalize upd H6 kt (.tup vs2) = H7 at rK a7 d7
  refine tC_intro (ax_add (i := 0) (c := 1) a7.mem rfl a7.pen (by omega) (ev_int (i := 4)) (by decide) (by decide) fun rg H8 r0 r1 a8 => ?_)
  have d8 : H8 d = some (.dK []) := a8.ex _ _ (Ne.symm pd) d7
  refine tC_intro (ax_add (i := 0) (c := 1) a8.mem rfl a8.pen (by omega) (ev_int (i := 12)) (by decide) (by decide) fun lv H9 l0 l1 a9 => ?_)
  have d9 : H9 d = some (.dK []) := a9.ex _ _ (Ne.symm pd) d8
  have rK9 := a9.up _ _ (a8.up _ _ rK)
  have aA : Aft K (plus (plus S kd) d) H5 p (n + 1 + 300 + 1 + 1 + 1 + 1) H9 := (a7.trans a8).trans a9
  refine tC_intro (tC_intro (tC_intro (tC_intro (tC_intro (tC_intro (tC_intro (tC_intro ⟨d9, pl8 (.int cells) (.ref kt) (.int rg) (.int lv) (.str "first") (.int 0) (.str "finish") (.bl false), rfl, by show 8 ≤ 15; decide, ?_⟩)))))))
  rw [merge8]
  have put10 : ExS (plus (plus S kd) d) H9 (upd H9 d (.dK (pl8 (.int cells) (.ref kt) (.int rg) (.int lv) (.str "first") (.int 0) (.str "finish") (.bl false)))) := ExS.put aA.mem (.inr rfl)
  have p10 := aA.pen.put (o := .dK (pl8 (.int cells) (.ref kt) (.int rg) (.int lv) (.str "first") (.int 0) (.str "finish") (.bl false))) aA.mem (.inr rfl) pd
  have rK10 := rK9.mono put10
  have d10 : (upd H9 d (.dK (pl8 (.int cells) (.ref kt) (.int rg) (.int lv) (.str "first") (.int 0) (.str "finish") (.bl false)))) d = some (.dK (pl8 (.int cells) (.ref kt) (.int rg) (.int lv) (.str "first") (.int 0) (.str "finish") (.bl false))) := upd_same
  have x10 : ∀ b o, b ≠ p → b ≠ d → H b = some o → (upd H9 d (.dK (pl8 (.int cells) (.ref kt) (.int rg) (.int lv) (.str "first") (.int 0) (.str "finish") (.bl false)))) b = some o := fun b' o h1 h2 h3 => by
    rw [upd_ne h2]
    exact aA.ex _ _ h1 (x5 b' o h1 h3)
  have mm10 := put10.mem
  generalize upd H9 d (.dK (pl8 (.int cells) (.ref kt) (.int rg) (.int lv) (.str "first") (.int 0) (.str "finish") (.bl false))) = H10 at mm10 p10 rK10 d10 x10
  -- asked
  refine td_seq' (sDPut_intro (tCB_intro (tOp_intro (ax_lot (i := 0) (many := 2) (ds := (["full", "lost"] : List Str).map D.str) mm10 rfl p10 (by omega) (ev_lst mm10 (ea_cons mm10 ev_str (ea_cons mm10 ev_str ea_nil)) (by show 2 ≤ _; decide)) (.inl rfl) (by show 2 ≤ 20; decide) ev_int (by decide) (by decide) fun v11 es H11 hsub a11 r11 => ?_))))
  obtain ⟨l', rfl, hl'⟩ := sub_strs hsub
  have sw : EvD K (plus (plus S kd) d) (tLst (tCons (tC (.str "swept")) tNil)) [some (.ref p), some (.int many), some (.ref kd), a, b, some (.str w), some (.ref d), none] H11 (.lst ((["swept"] : List Str).map D.str)) := ev_lst a11.mem (ea_cons a11.mem ev_str ea_nil) (by show 1 ≤ _; decide)
  refine sw H11 (Evl.Ex.refl _) _ fun v12 H12 e12 r12 => ?_
  have a12 := a11.grow e12
  have hll : l'.length ≤ 2 := hl'.length_le
  refine r_cat (ds := l'.map D.str) (es := (["swept"] : List Str).map D.str) a12.mem (by rw [List.length_map, List.length_map]; show l'.length + 1 ≤ _; omega) H12 (Evl.Ex.refl _) _ _ (r11.mono (.of a11.mem e12)) r12 _ fun v13 H13 e13 r13 => ?_
  refine ra_tup (a12.grow e13).mem H13 (Evl.Ex.refl _) _ (.cons r13 .nil) _ fun v14 H14 e14 r14 => ?_
  have a14 := (a12.grow e13).grow e14
  have rAk : Rp K (plus (plus S kd) d) H14 v14 (strsT (l' ++ [("swept" : Str)])) := by
    rw [← List.map_append] at r14
    exact r14
  have rK14 := a14.up _ _ rK10
  have d14 := a14.ex _ _ (Ne.symm pd) d10
  refine tVar_intro rfl (tC_intro ⟨d, _, rfl, DPut.k (k := Sum.inr "asked") d14 (by rw [sizeLine_eq]; show 8 < _; omega), ?_⟩)
  have put15 : ExS (plus (plus S kd) d) H14 (upd H14 d (.dK (putK (pl8 (.int cells) (.ref kt) (.int rg) (.int lv) (.str "first") (.int 0) (.str "finish") (.bl false)) (.inr "asked") v14))) := ExS.put a14.mem (.inr rfl)
  have p15 := a14.pen.put (o := .dK (putK (pl8 (.int cells) (.ref kt) (.int rg) (.int lv) (.str "first") (.int 0) (.str "finish") (.bl false)) (.inr "asked") v14)) a14.mem (.inr rfl) pd
  have rK15 := rK14.mono put15
  have rAk15 := rAk.mono put15
  have d15 : (upd H14 d (.dK (putK (pl8 (.int cells) (.ref kt) (.int rg) (.int lv) (.str "first") (.int 0) (.str "finish") (.bl false)) (.inr "asked") v14))) d = some (.dK (putK (pl8 (.int cells) (.ref kt) (.int rg) (.int lv) (.str "first") (.int 0) (.str "finish") (.bl false)) (.inr "asked") v14)) := upd_same
  have x15 : ∀ b o, b ≠ p → b ≠ d → H b = some o → (upd H14 d (.dK (putK (pl8 (.int cells) (.ref kt) (.int rg) (.int lv) (.str "first") (.int 0) (.str "finish") (.bl false)) (.inr "asked") v14))) b = some o := fun b' o h1 h2 h3 => by
    rw [upd_ne h2]
    exact a14.ex _ _ h1 (x10 b' o h1 h2 h3)
  have mm15 := put15.mem
  generalize upd H14 d (.dK (putK (pl8 (.int cells) (.ref kt) (.int rg) (.int lv) (.str "first") (.int 0) (.str "finish") (.bl false)) (.inr "asked") v14)) = H15 at mm15 p15 rK15 rAk15 d15 x15
  -- collector
  have cw : EvD K (plus (plus S kd) d) (tTup (tCons (tVar 5) tNil)) [some (.ref p), some (.int many), some (.ref kd), a, b, some (.str w), some (.ref d), none] H15 (.tup [.str w]) := ev_tup mm15 (ev_a1 (ev_var (i := 5) mm15 rfl (.str w))) (by show 1 ≤ _; decide)
  refine td_seq' (sDPut_intro (cw H15 (Evl.Ex.refl _) _ fun v16 H16 e16 r16 => ?_))
  have m16 := mm15.ex e16
  have d16 := e16 _ _ d15
  refine tVar_intro rfl (tC_intro ⟨d, _, rfl, DPut.k (k := Sum.inr "collector") d16 (by rw [sizeLine_eq]; show 9 < _; omega), ?_⟩)
  rw [put89]
  have rK16 := rK15.mono (.of mm15 e16)
  have rAk16 := rAk15.mono (.of mm15 e16)
  have put17 : ExS (plus (plus S kd) d) H16 (upd H16 d (.dK (plK (.int cells) (.ref kt) (.int rg) (.int lv) (.str "first") (.int 0) (.str "finish") (.bl false) v14 v16))) := ExS.put m16 (.inr rfl)
  have s17 : PSt K (plus (plus S kd) d) H p d (n + 400) ⟨cells, ks, rg, lv, "first", .none, some 0, "finish", false, l' ++ [("swept" : Str)]⟩ (.tup [.str w]) (upd H16 d (.dK (plK (.int cells) (.ref kt) (.int rg) (.int lv) (.str "first") (.int 0) (.str "finish") (.bl false) v14 v16))) := by
    refine ⟨put17.mem, ((p15.ex mm15 e16).put m16 (.inr rfl) pd).le (by omega), fun b' o h1 h2 h3 => ?_, .ref kt, .int 0, v14, v16, upd_same, rK16.mono put17, .int 0, rAk16.mono put17, r16.mono put17⟩
    rw [upd_ne h2]
    exact e16 _ _ (x15 b' o h1 h2 h3)
  have wa : WLotOk lBREAKS (l' ++ [("swept" : Str)]) := wlot_sub wl_breaks (by
    show (l' ++ [("swept" : Str)]).Sublist ((["full", "lost"] : List Str) ++ [("swept" : Str)])
    exact hl'.append (List.Sublist.refl _))
  have base : Base ⟨cells, ks, rg, lv, "first", .none, some 0, "finish", false, l' ++ [("swept" : Str)]⟩ := ⟨c0, by show cells ≤ 12; omega, by show 1 ≤ ks.length; omega, by show ks.length ≤ 3; omega, by rw [hml] at hok; exact hok, r0, by show rg ≤ 4; omega, l0, by show lv ≤ 12; omega, wa, List.mem_append.mpr (.inr (List.mem_singleton.mpr rfl))⟩
  refine any_ifs s17 (.inr rfl) pd (by omega) rfl rfl rfl hw base rfl rfl rfl rfl fun h G P F s => ?_
  have nSd : ¬ S d := m.new hdH
  refine k h d G P F (fun b' o h1 h2 => s.ex b' o h1 (fun z => by rw [z, hdH] at h2; cases h2) h2) hdH (fun b' z => s.mem b' (.inl (.inl z))) ((s.pen.less (fun _ z => .inl (.inl z)) hp.1).le (by omega)) nSd ?_
  exact (s.less (S' := S) (fun _ z => .inl (.inl z)) hp.1).dic
end
end Nv
set_option Elab.async false
set_option linter.all false
set_option maxRecDepth 100000
set_option maxHeartbeats 4000000
/-! Promises of the law's own defs: _law_whole_house. -/
namespace Nv
open PySem PySem.Spec PyProof.Rows L2 StX NvZ
def pF : List Str := ["cells", "kinds", "registers", "live", "rooms", "pace", "need", "slide", "asked", "collector"]
def pD (g : Hs) (coD : D) : List D := [.int g.cells, kindsD g.kinds, .int g.registers, .int g.live, .str g.rooms, optD g.pace, .str g.need, .bl g.slide, strsT g.asked, coD]
def plD (g : Hs) (coD : D) (f : Str) : D := ((pF.zip (pD g coD)).lookup f).getD .non
section
variable {K : PySem.W.Frag} {A : Ads} {S S' : Addr → Prop} {σ : L2.St} {H0 H H' H1 G G' : Hp} {E : XK} {p d o : Addr} {n n' : Nat} {g : Hs} {coD : D}
theorem PlainAt.get (a : PlainAt K S H d g coD) {f : Str} (hf : f ∈ pF) : ∃ kvs v, H d = some (.dK kvs) ∧ valV kvs (.inr f) = some v ∧ Rp K S H v (plD g coD f) := by
  obtain ⟨kv, pa, ak, co, h, r1, r2, r3, r4⟩ := a
  have hf' : f = "cells" ∨ f = "kinds" ∨ f = "registers" ∨ f = "live" ∨ f = "rooms" ∨ f = "pace" ∨ f = "need" ∨ f = "slide" ∨ f = "asked" ∨ f = "collector" := by simpa [pF] using hf
  rcases hf' with rfl | rfl | rfl | rfl | rfl | rfl | rfl | rfl | rfl | rfl
  · exact ⟨_, _, h, rfl, .int _⟩
  · exact ⟨_, _, h, rfl, r1⟩
  · exact ⟨_, _, h, rfl, .int _⟩
  · exact ⟨_, _, h, rfl, .int _⟩
  · exact ⟨_, _, h, rfl, .str _⟩
  · exact ⟨_, _, h, rfl, r2⟩
  · exact ⟨_, _, h, rfl, .str _⟩
  · exact ⟨_, _, h, rfl, .bl _⟩
  · exact ⟨_, _, h, rfl, r3⟩
  · exact ⟨_, _, h, rfl, r4⟩
theorem PlainAt.ex (m : Mem S H) (e : Ex H H') (a : PlainAt K S H d g coD) : PlainAt K S H' d g coD := a.up (Up.ex m e) fun o h => e _ _ h
theorem ev_pl {i : Nat} {tk : TE} {f : Str} (m : Mem S H) (a : PlainAt K S H d g coD) (hσ : σ[i]? = some (some (.ref d))) (hk : EvD K S tk σ H (.str f)) (hf : f ∈ pF) : EvD K S (tDGet (tVar i) tk) σ H (plD g coD f) := fun H1 e Q k => by
  refine ⟨.ref d, hσ, hk H1 e _ fun v H2 e2 r2 => ?_⟩
  cases r2
  obtain ⟨kvs, v, h, hv, r⟩ := (a.ex m (e.trans e2)).get hf
  have := DGet.k (k := Sum.inr f) h
  rw [hv] at this
  exact ⟨d, v, rfl, this, k v H2 e2 r⟩
theorem ev_plc {i : Nat} {f : Str} {e : D} (m : Mem S H) (a : PlainAt K S H d g coD) (hσ : σ[i]? = some (some (.ref d))) (hf : f ∈ pF) (he : plD g coD f = e) : EvD K S (tDGet (tVar i) (tC (.str f))) σ H e := he ▸ ev_pl m a hσ ev_str hf
theorem fix_intsD (l : List Int) : fixD (intsD l) = intsD l := by
  show D.tup (fixA (l.map D.int)) = D.tup (l.map D.int)
  rw [fixA_map, List.map_map]; rfl
theorem fix_kindD (k : Kind) : fixD (kindD k) = kindD k := by
  show D.tup [.int k.1, .tup (fixA (k.2.map intsD))] = D.tup [.int k.1, .tup (k.2.map intsD)]
  rw [fixA_map, List.map_map]
  exact congrArg (fun z => D.tup [.int k.1, .tup z]) (List.map_congr_left fun l _ => fix_intsD l)
theorem fix_kindsD (ks : List Kind) : fixD (kindsD ks) = kindsD ks := by
  show D.tup (fixA (ks.map kindD)) = D.tup (ks.map kindD)
  rw [fixA_map, List.map_map]
  exact congrArg D.tup (List.map_congr_left fun k _ => fix_kindD k)
theorem fix_strsT (gs : List Str) : fixD (strsT gs) = strsT gs := by
  show D.tup (fixA (gs.map D.str)) = D.tup (gs.map D.str)
  rw [fixA_map, List.map_map]; rfl
theorem fix_collD (c : Cl) : fixD (collD c) = collD c := by
  cases c with
  | none => rfl
  | halves => rfl
  | counts m o => cases m <;> rfl
  | young n r => rfl
  | marks gs =>
    show D.tup [.str "marks", fixD (strsT gs)] = D.tup [.str "marks", strsT gs]
    rw [fix_strsT]
def spWhole (K : PySem.W.Frag) (A : Ads) : Sp := fun vs H Q _ => ∃ S d h, vs = [.ref d] ∧ Mem S H ∧ PlainAt K S H d h (collD h.coll) ∧ PartsOk h ∧ Fits h ∧ ∀ q H', Ex H H' → H q = none → HouseAt K A S H' q h → Q (.ref q) H'
theorem pr_whole (vs : List V) (H : Hp) (Q : VK) (E : XK) (hh : spWhole K A vs H Q E) : t_law_whole_house K A E (spHInit K A) { nx := fun _ H' => Q .non H', rt := Q } (start ["plain", "rest", "part"] vs) H := by
  obtain ⟨S, d, h, rfl, m, a, P, F, k⟩ := hh
  show t_law_whole_house K A E (spHInit K A) { nx := fun _ H' => Q .non H', rt := Q } [some (.ref d), none, none] H
  have names : EvD K S (tTup (tCons (tC (.str "rooms")) (tCons (tC (.str "collector")) (tCons (tC (.str "pace")) (tCons (tC (.str "need")) (tCons (tC (.str "slide")) (tCons (tC (.str "asked")) tNil))))))) [some (.ref d), none, none] H (strsT ["rooms", "collector", "pace", "need", "slide", "asked"]) :=
    ev_tup m (ea_cons m ev_str (ea_cons m ev_str (ea_cons m ev_str (ea_cons m ev_str (ea_cons m ev_str (ea_cons m ev_str ea_nil)))))) (by show 6 ≤ _; decide)
  have sub : ∀ f ∈ (["rooms", "collector", "pace", "need", "slide", "asked"] : List Str), f ∈ pF := by decide +kernel
  have hlc := ev_map (i := 2) (te := tDGet (tVar 0) (tVar 2)) (f := fun e => plD h (collD h.coll) (unS e)) m (ei_seq m names rfl) (by show 6 ≤ _; decide) fun S' H' m' up ex x e he rx => by
    have he' : e ∈ (["rooms", "collector", "pace", "need", "slide", "asked"] : List Str).map D.str := he
    obtain ⟨f, hf, rfl⟩ := List.mem_map.mp he'
    exact ⟨rfl, ev_pl m' (a.up up fun o h => ex _ _ h) rfl (ev_var (i := 2) m' rfl rx) (sub f hf)⟩
  have hl2 : EvD K S _ [some (.ref d), none, none] H (.lst [.str h.rooms, collD h.coll, optD h.pace, .str h.need, .bl h.slide, strsT h.asked]) := hlc
  refine ts_set hl2 fun vr H1 e1 rr => ?_
  have m1 := m.ex e1
  have a1 := a.ex m e1
  have q1 : ∀ {f : Str} {e : D}, f ∈ pF → plD h (collD h.coll) f = e → EvD K S (tDGet (tVar 0) (tC (.str f))) [some (.ref d), some vr, none] H1 e := fun hf he => ev_plc m1 a1 rfl hf he
  have q2 : ∀ {j : Nat} {i : Int} {e : D}, i = (j : Nat) → ([.str h.rooms, collD h.coll, optD h.pace, .str h.need, .bl h.slide, strsT h.asked] : List D)[j]? = some e → EvD K S (tOp (rIx K) (tVar 1) (tC (.int i))) [some (.ref d), some vr, none] H1 e := fun hi he => ev_op m1 (ev_var (i := 1) m1 rfl rr) ev_int (r_ixQ' (.inl rfl) hi he)
  refine mk_house (S := S) (h := h) (ds := [.int h.cells, kindsD h.kinds, .int h.registers, .int h.live, .str h.rooms, collD h.coll, optD h.pace, .str h.need, .bl h.slide, strsT h.asked]) m1 ?_ (show Args _ h from ⟨_, _, _, rfl, fix_kindsD _, fix_collD _, fix_strsT _⟩) P F fun q H2 e2 hq _ hA => ?_
  · exact ea_cons m1 (q1 (by decide +kernel) rfl) (ea_cons m1 (q1 (by decide +kernel) rfl) (ea_cons m1 (q1 (by decide +kernel) rfl) (ea_cons m1 (q1 (by decide +kernel) rfl) (ea_cons m1 (q2 (j := 0) rfl rfl) (ea_cons m1 (q2 (j := 1) rfl rfl) (ea_cons m1 (q2 (j := 2) rfl rfl) (ea_cons m1 (q2 (j := 3) rfl rfl) (ea_cons m1 (q2 (j := 4) rfl rfl) (ea_cons m1 (q2 (j := 5) rfl rfl) ea_nil)))))))))
  · refine k q H2 (e1.trans e2) ?_ hA
    cases z : H q with
    | none => rfl
    | some o => rw [e1 _ _ z] at hq; cases hq
end
end Nv
set_option Elab.async false
set_option linter.all false
set_option maxRecDepth 100000
set_option maxHeartbeats 4000000
/-! Promises of the law's own defs: _law_house_lines. -/
namespace Nv
open PySem PySem.Spec PyProof.Rows L2 StX NvZ
section
variable {K : PySem.W.Frag} {A : Ads} {S S' : Addr → Prop} {σ : L2.St} {H0 H H' H1 G G' : Hp} {E : XK} {p d o : Addr} {n n' : Nat} {g : Hs} {coD : D}
/-- lists in a list -/
theorem lists_of : ∀ {dss : List (List D)} {vs : List V}, RpA K S H vs (dss.map D.lst) → ∃ (bs : List Addr) (lst : List (List V)), vs = bs.map V.ref ∧ bs.length = lst.length ∧ lst.length = dss.length ∧ (∀ (i : Nat) b, bs[i]? = some b → ∃ ys, lst[i]? = some ys ∧ H b = some (.lst ys)) ∧ RpA K S H lst.flatten dss.flatten
  | [], vs, h => by
    cases h
    exact ⟨[], [], rfl, rfl, rfl, (fun i b hb => by cases hb), .nil⟩
  | ds :: dss, vs, h => by
    cases h with
    | cons r t =>
      obtain ⟨bs, lst, rfl, h1, h2, h3, h4⟩ := lists_of t
      cases r with
      | @lst a xs _ g1 g2 =>
        refine ⟨a :: bs, xs :: lst, rfl, by rw [List.length_cons, List.length_cons, h1], by rw [List.length_cons, List.length_cons, h2], fun i b hb => ?_, g2.app h4⟩
        cases i with
        | zero => cases hb; exact ⟨xs, rfl, g1.1⟩
        | succ i =>
          obtain ⟨ys, e1, e2⟩ := h3 i b hb
          exact ⟨ys, e1, e2⟩
theorem ra_sumL {dss : List (List D)} (m : Mem S H) (hz : dss.flatten.length ≤ 100000) : RAD K S rSumL H [.lst (dss.map D.lst), .lst []] (.lst dss.flatten) := fun H1 e vs r Q k => by
  obtain ⟨u, v, rfl, r1, r2⟩ := r.two
  cases r1 with
  | @lst a xs _ g1 g2 =>
    cases r2 with
    | @lst z zs _ f1 f2 =>
      cases f2
      obtain ⟨bs, lst, rfl, h1, h2, h3, h4⟩ := lists_of g2
      refine ⟨a, z, bs, lst, rfl, g1.1, f1.1, h1, h3, by rw [h4.length, sizeLine_eq]; omega, fun hn => ?_, fun _ q hq => k _ _ (Evl.Ex.new hq) (.newL (m.ex e) h4 hq)⟩
      have hd : dss = [] := List.length_eq_zero_iff.mp (by rw [← h2, hn]; rfl)
      subst hd
      exact k _ _ (Evl.Ex.refl _) (.lst f1 .nil)
/-- a + b into a slot: the new list may be changed -/
theorem ts_catL {i : Nat} {ta tb : TE} {ds es : List D} {r : TS} {D0 : Ends} (m : Mem S H) (ha : EvD K S ta σ H (.lst ds)) (hb : EvD K S tb σ H (.lst es)) (hl : ds.length + es.length ≤ 1000)
    (k : ∀ q vs H1, H q = none → Ex H H1 → Mem (plus S q) H1 → Up K S H (plus S q) H1 → H1 q = some (.lst vs) → RpA K (plus S q) H1 vs (ds ++ es) → r D0 (σ.set i (some (.ref q))) H1) : tSeq (tAsg (tOp rCat ta tb) (gName i)) r D0 σ H := ha H (Evl.Ex.refl _) _ fun v H1 e1 r1 => hb H1 e1 _ fun w H2 e2 r2 => by
  have r1' := r1.mono (.of (m.ex e1) e2)
  have m2 := m.ex (e1.trans e2)
  cases r1' with
  | @lst a xs _ g1 g2 =>
    cases r2 with
    | @lst b ys _ f1 f2 =>
      refine ⟨a, b, xs, ys, rfl, rfl, g1.1, f1.1, by rw [g2.length, f2.length, sizeLine_eq]; omega, fun q hq => ?_⟩
      have eN : Ex H2 (upd H2 q (.lst (xs ++ ys))) := Evl.Ex.new hq
      have hqH : H q = none := by
        cases z : H q with
        | none => rfl
        | some o => rw [(e1.trans e2) _ _ z] at hq; cases hq
      have mm : Mem (plus S q) (upd H2 q (.lst (xs ++ ys))) := fun b s => by
        rcases s with s | s
        · obtain ⟨o, ho⟩ := m2 b s
          exact ⟨o, eN _ _ ho⟩
        · exact ⟨_, by rw [s]; exact upd_same⟩
      have up1 : Up K S H2 (plus S q) (upd H2 q (.lst (xs ++ ys))) := fun v d r => (r.plus hq).mono ⟨fun a o _ h => eN _ _ h, mm⟩
      exact k q _ _ hqH ((e1.trans e2).trans eN) mm ((Up.ex m (e1.trans e2)).trans up1) upd_same (up1.arr (g2.app f2))
/-- a loop over pairs that appends -/
theorem ts_forApp2 {α : Type} {wi : TI} {i j l : Nat} {te : TE} {D0 : Ends} {as : List α} {g1 g2' f : α → D} {vs : List V} {es0 : List D} (m : Mem S H) (hσ : σ[l]? = some (some (.ref p))) (il : i ≠ l) (jl : j ≠ l) (ij : i ≠ j) (hp : H p = some (.lst vs)) (sp : S p) (r0 : RpA K S H vs es0)
    (hi : EvI K S wi σ H (as.map fun a => .tup [g1 a, g2' a])) (hl : es0.length + as.length ≤ 1000)
    (he : ∀ a ∈ as, ∀ G x y, Mem S G → Up K S H S G → Rp K S G x (g1 a) → Rp K S G y (g2' a) → EvD K S te ((σ.set i (some x)).set j (some y)) G (f a))
    (k : ∀ x y ws G, Mem S G → Up K S H S G → Ex1 p H G → G p = some (.lst ws) → RpA K S G ws (es0 ++ as.map f) → ∀ σ', (σ' = σ ∨ σ' = (σ.set i x).set j y) → D0.nx σ' G) :
    tFor wi (g2 K i j) (tDrop (tBM K "list" rAppend (tVar l) (tCons te tNil))) D0 σ H := by
  refine ts_for hi fun H2 e2 => ⟨fun n σ' G => (σ' = σ ∨ ∃ x y, σ' = (σ.set i x).set j y) ∧ Mem S G ∧ Up K S H2 S G ∧ Ex1 p H2 G ∧ ∃ ws, G p = some (.lst ws) ∧ RpA K S G ws (es0 ++ (as.take n).map f), ?_, fun n σ' G a => ⟨S, a.2.1, a.2.2.1⟩, fun n d σ' G hd a x G2 ex hx => ?_, fun σ' G a => ?_⟩
  · refine ⟨.inl rfl, m.ex e2, Up.refl, Ex1.refl, vs, e2 _ _ hp, ?_⟩
    have := r0.mono (.of m e2)
    simpa using this
  · obtain ⟨hs, mG, uG, xG, ws, hw, rw'⟩ := a
    rw [List.getElem?_map, Option.map_eq_some_iff] at hd
    obtain ⟨b, hb, rfl⟩ := hd
    have rx := hx S mG uG
    have m2 := mG.ex ex
    refine g2_of rx fun z1 z2 q1 q2 => ?_
    have es : (σ'.set i (some z1)).set j (some z2) = (σ.set i (some z1)).set j (some z2) := by
      rcases hs with rfl | ⟨y1, y2, rfl⟩
      · rfl
      · have e1 : ((σ.set i y1).set j y2).set i (some z1) = (σ.set i (some z1)).set j y2 := by
          rw [List.set_comm _ _ (Ne.symm ij), List.set_set]
        rw [e1, List.set_set]
    rw [es]
    have hσ2 : ((σ.set i (some z1)).set j (some z2))[l]? = some (some (.ref p)) := by rw [List.getElem?_set_ne jl, List.getElem?_set_ne il]; exact hσ
    have uH : Up K S H S G2 := ((Up.ex m e2).trans uG).trans (Up.ex mG ex)
    have tk : as.take (n + 1) = as.take n ++ [b] := by rw [List.take_add_one, hb]; rfl
    have hnl : n < as.length := (List.getElem?_eq_some_iff.mp hb).1
    exact ts_append hσ2 (ex _ _ hw) (he b (List.mem_of_getElem? hb) G2 z1 z2 m2 uH q1 q2 G2 (Evl.Ex.refl _) _ fun v H3 e3 r3 => by
      have m3 := m2.ex e3
      have rA := (rw'.mono (.of mG ex)).mono (.of m2 e3)
      have put : ExS S H3 (upd H3 p (.lst (ws ++ [v]))) := ExS.put m3 sp
      refine ⟨p, ws, v, rfl, rfl, e3 _ _ (ex _ _ hw), by rw [rA.length, List.length_append, List.length_map, List.length_take, sizeLine_eq]; omega, ?_⟩
      refine ⟨.inr ⟨_, _, rfl⟩, put.mem, ((uG.trans (Up.ex mG ex)).trans (Up.ex m2 e3)).trans (Up.exS put), (((xG.trans (Ex.ex1 ex)).trans (Ex.ex1 e3))).trans ex1_put, ws ++ [v], upd_same, ?_⟩
      rw [tk, List.map_append, ← List.append_assoc]
      exact (rA.app (.cons r3 .nil)).mono put)
  · obtain ⟨hs, mG, uG, xG, ws, hw, rw'⟩ := a
    rw [List.length_map, List.take_length] at rw'
    rcases hs with rfl | ⟨x, y, rfl⟩
    · exact k none none ws G mG ((Up.ex m e2).trans uG) ((Ex.ex1 e2).trans xG) hw rw' _ (.inl rfl)
    · exact k x y ws G mG ((Up.ex m e2).trans uG) ((Ex.ex1 e2).trans xG) hw rw' _ (.inr rfl)
/-- '-' if part is None else str(part) -/
theorem ev_partS {i : Nat} {x : V} {e : D} (m : Mem S H) (hσ : σ[i]? = some (some x)) (rx : Rp K S H x e) (ok : restOk e) : EvD K S (tIf (tTest (tOp rIsN (tVar i) (tC .non))) (tC (.str "-")) (tCB rStrIS (tCons (tVar i) tNil))) σ H (.str (partD e)) := by
  have vx := ev_var (i := i) m hσ rx
  refine ev_if (eb_T (ev_op m vx ev_non r_isN)) (fun z => ?_) fun z => ?_
  · rcases ok with rfl | ⟨i, rfl, _⟩ | ⟨s, rfl⟩
    · exact ev_str
    · cases z
    · cases z
  · rcases ok with rfl | ⟨i, rfl, h0, h1⟩ | ⟨s, rfl⟩
    · cases z
    · exact ev_cb (ev_a1 vx) (ra_strI (log12 h0 h1))
    · exact ev_cb (ev_a1 vx) ra_strS
end
end Nv
set_option Elab.async false
set_option linter.all false
set_option maxRecDepth 100000
set_option maxHeartbeats 4000000
/-! Promises of the law's own defs: _law_house_lines. -/
namespace Nv
open PySem PySem.Spec PyProof.Rows L2 StX NvZ
section
variable {K : PySem.W.Frag} {A : Ads} {S S' : Addr → Prop} {σ : L2.St} {H0 H H' H1 G G' : Hp} {E : XK} {p d o : Addr} {n n' : Nat} {g : Hs} {coD : D}
theorem es_list {te : TE} {e : D} {ds : List D} (m : Mem S H) (hq : SeqD e ds) (h : EvD K S te σ H e) : EvD K S (tCB (rListOf K) (tCons te tNil)) σ H (.lst ds) := ev_cb (ev_a1 h) (ra_listQ m hq)
def spHLines (K : PySem.W.Frag) : Sp := fun vs H Q _ => ∃ S d h, vs = [.ref d] ∧ Mem S H ∧ PlainAt K S H d h (collD h.coll) ∧ PartsOk h ∧ ∀ v H', Ex H H' → Rp K S H' v (linesD (houseL h)) → Q v H'
/-- a list that is being made: back to data -/
theorem back {vs : List V} {ds : List D} {H0 : Hp} (m0 : Mem S H0) (hp : H0 p = none) (hv : G p = some (.lst vs)) (r : RpA K (plus S p) G vs ds) : Rp K S G (.ref p) (.lst ds) := .lst ⟨hv, m0.new hp⟩ (r.less fun _ z => .inl z)
theorem pr_hlines (vs : List V) (H : Hp) (Q : VK) (E : XK) (hh : spHLines K vs H Q E) : t_law_house_lines K A E { nx := fun _ H' => Q .non H', rt := Q } (start ["plain", "lines", "size", "links", "word", "rest", "kind", "link", "part"] vs) H := by
  obtain ⟨S, d, h, rfl, m, a, P, k⟩ := hh
  show t_law_house_lines K A E { nx := fun _ H' => Q .non H', rt := Q } [some (.ref d), none, none, none, none, none, none, none, none] H
  have many3 : ((h.kinds.length : Nat) : Int) ≤ 3 := by have := P.k2; omega
  refine ts_newL (i := 1) (S := S) (ds := [lD ["cells", istr h.cells]]) m (ea_cons m (ev_row2 m (ev_str12 m (ev_plc m a rfl (by decide +kernel) rfl) (by have := P.c1; omega) P.c2)) ea_nil) (by show 1 ≤ _; decide) fun p us1 H1 hp e1 m1 U1 hp1 r1 => ?_
  have dp : d ≠ p := fun z => by
    obtain ⟨u, hu⟩ := a.there
    rw [z, hp] at hu; cases hu
  have a1 : PlainAt K (plus S p) H1 d h (collD h.coll) := a.up U1 fun o h => e1 _ _ h
  have hik : EvI K (plus S p) (iSeq K (tDGet (tVar 0) (tC (.str "kinds")))) [some (.ref d), some (.ref p), none, none, none, none, none, none, none] H1 (h.kinds.map fun kd : Kind => .tup [.int kd.1, .tup (kd.2.map intsD)]) := ei_seq (d := kindsD h.kinds) m1 (ev_plc m1 a1 rfl (by decide +kernel) rfl) rfl
  refine td_seq' (ts_forApp2 (i := 2) (j := 3) (l := 1) (as := h.kinds) (g1 := fun kd => .int kd.1) (g2' := fun kd => .tup (kd.2.map intsD)) (f := fun kd => lD (kindW kd)) m1 rfl (by decide) (by decide) (by decide) hp1 (.inr rfl) r1 hik (by have := P.k2; show 1 + _ ≤ _; omega) (fun kd hkd G x y mG uG rx ry => ?_) fun x y ws G mG uG xG hw rw' σ' hs => ?_)
  · -- one kind's line
    have ok := P.kinds kd hkd
    have lk := kind_links ok
    have w2 : EvD K (plus S p) (tLst (tCons (tC (.str "kind")) (tCons (tCB rStrI (tCons (tVar 2) tNil)) tNil))) [some (.ref d), some (.ref p), some x, some y, none, none, none, none, none] G (lD ["kind", istr kd.1]) := ev_row2 mG (ev_str12 mG (ev_var (i := 2) mG rfl rx) (by have := ok.lo; omega) (by have := ok.hi; omega))
    have hlc := ev_map (i := 7) (σ := [some (.ref d), some (.ref p), some x, some y, none, none, none, none, none]) (te := tOp rCat (tLst (tCons (tC (.str ":")) tNil)) (tLc (iSeq K (tVar 7)) (gName 6) tYes (tCB rStrI (tCons (tVar 6) tNil)) [6])) (f := fun e => lD (linkW (unL e))) mG (ei_seq mG (ev_var (i := 3) mG rfl ry) rfl) (by show (kd.2.map intsD).length ≤ _; rw [List.length_map]; omega) fun S' H' m' up ex z e he rz => by
      have he' : e ∈ kd.2.map intsD := he
      obtain ⟨l, hl, rfl⟩ := List.mem_map.mp he'
      have hr : ∀ i ∈ l, 0 ≤ i ∧ i ≤ 12 := fun i hi => by
        have := (ok.each l hl).rng i hi
        omega
      have hll := (ok.each l hl).len
      refine ⟨rfl, (ev_op m' (ev_lst m' (ea_cons m' (ev_str (i := ":")) ea_nil) (by show 1 ≤ _; decide)) (ev_strs (i := 6) (b := 0) m' (.inr rfl) (ev_var (i := 7) m' rfl rz) hll hr (fun _ => rfl) (fun _ => rfl)) (r_cat m' (by rw [List.length_map, List.length_map]; show 1 + _ ≤ _; omega))).is ?_⟩
      rw [unL_eq]; rfl
    have hlc2 := hlc.is (d1 := .lst ((kd.2.map fun l => (linkW l).map D.str).map D.lst)) (by
      show D.lst ((kd.2.map intsD).map _) = _
      rw [List.map_map, List.map_map]
      refine congrArg D.lst (List.map_congr_left fun l _ => ?_)
      show lD (linkW (unL (intsD l))) = _
      rw [unL_eq]; rfl)
    have flen : ((kd.2.map fun l => (linkW l).map D.str).flatten).length ≤ 3 * 1001 := by
      rw [List.length_flatten, List.map_map]
      refine Nat.le_trans (sum_le (n := 1001) fun l hl => ?_) (Nat.mul_le_mul_right _ lk)
      show ((linkW l).map D.str).length ≤ 1001
      rw [List.length_map]
      show (l.map istr).length + 1 ≤ 1001
      rw [List.length_map]
      have := (ok.each l hl).len
      omega
    have hsum := ev_cb (ea_cons mG hlc2 (ea_cons mG (ev_lst mG ea_nil (Nat.zero_le _)) ea_nil)) (ra_sumL (dss := kd.2.map fun l => (linkW l).map D.str) mG (by omega))
    refine (ev_op mG w2 hsum (r_cat mG (by show 2 + _ ≤ _; omega))).is ?_
    rw [flat_map, ← List.map_append]
    rfl
  · -- behind the kinds
    obtain ⟨s2, s3, hσ⟩ : ∃ s2 s3, σ' = [some (.ref d), some (.ref p), s2, s3, none, none, none, none, none] := by
      rcases hs with rfl | rfl
      · exact ⟨none, none, rfl⟩
      · exact ⟨x, y, rfl⟩
    subst hσ
    have E1 : Ex H G := ex_new e1 hp xG
    have mS : Mem S G := m.ex E1
    have aS := a.ex m E1
    have rl : Rp K S G (.ref p) (.lst (lD ["cells", istr h.cells] :: h.kinds.map fun kd => lD (kindW kd))) := back m hp hw rw'
    have q : ∀ {G' : Hp} {σ2 : L2.St} {f : Str} {e : D}, Ex G G' → σ2[0]? = some (some (.ref d)) → f ∈ pF → plD h (collD h.coll) f = e → EvD K S (tDGet (tVar 0) (tC (.str f))) σ2 G' e := fun eg hσ hf he => ev_plc (mS.ex eg) (aS.ex mS eg) hσ hf he
    refine ts_catL (i := 1) mS (ev_var (i := 1) mS rfl rl) (ev_lst (ds := [lD ["registers", istr h.registers], lD ["live", istr h.live], lD ["rooms", h.rooms]]) mS (ea_cons mS (ev_row2 mS (ev_str12 mS (q (Evl.Ex.refl _) rfl (by decide +kernel) rfl) (by have := P.r1; omega) (by have := P.r2; omega))) (ea_cons mS (ev_row2 mS (ev_str12 mS (q (Evl.Ex.refl _) rfl (by decide +kernel) rfl) (by have := P.l1; omega) P.l2)) (ea_cons mS (ev_row2 mS (q (Evl.Ex.refl _) rfl (by decide +kernel) rfl)) ea_nil))) (by show 3 ≤ _; decide)) (by rw [List.length_cons, List.length_map]; have := P.k2; show _ + 1 + 3 ≤ _; omega) fun p2 us2 H2 hp2 e2 m2 U2 hp2v r2 => ?_
    have dp2 : d ≠ p2 := fun z => by
      obtain ⟨u, hu⟩ := aS.there
      rw [z, hp2] at hu; cases hu
    have a2 : PlainAt K (plus S p2) H2 d h (collD h.coll) := aS.up U2 fun o h => e2 _ _ h
    -- word, rest
    have cw : EvD K (plus S p2) (tOp (rIx K) (tDGet (tVar 0) (tC (.str "collector"))) (tC (.int 0))) [some (.ref d), some (.ref p2), s2, s3, none, none, none, none, none] H2 (.str (wordC h.coll)) := ev_op m2 (ev_plc m2 a2 rfl (by decide +kernel) (e := collD h.coll) rfl) ev_int (r_ixQ' (j := 0) (.inr rfl) rfl rfl)
    have cr : EvD K (plus S p2) (tCB (rListOf K) (tCons (tSl (rSlX K) (tDGet (tVar 0) (tC (.str "collector"))) (tPart (tC (.int 1))) tNoPart) tNil)) [some (.ref d), some (.ref p2), s2, s3, none, none, none, none, none] H2 (.lst (restC h.coll)) := es_list m2 (likeD_seq (es := restC h.coll) (.inr rfl : SeqD (collD h.coll) _)) (ev_tailX m2 (.inr rfl : SeqD (collD h.coll) (.str (wordC h.coll) :: restC h.coll)) (ev_plc m2 a2 rfl (by decide +kernel) (e := collD h.coll) rfl))
    refine ts_parset (ea_cons m2 cw (ea_cons m2 cr ea_nil)) fun vw vr H3 e3 rw3 rr3 => ?_
    cases rw3
    have m3 := m2.ex e3
    have wo := wordC_ok h.coll
    have hcl := okF_coll P.coll
    -- what follows the if
    have fin : ∀ (vr2 : V) (ds : List D) (H4 : Hp), Ex H3 H4 → Rp K (plus S p2) H4 vr2 (.lst ds) → ds.length ≤ 1000 → (∀ e ∈ ds, restOk e) → ("collector" : Str) :: wordC h.coll :: ds.map partD = collW h.coll →
        (tSeq (tDrop (tBM K "list" rAppend (tVar 1) (tCons (tOp rCat (tLst (tCons (tC (.str "collector")) (tCons (tVar 4) tNil))) (tLc (iSeq K (tVar 5)) (gName 8) tYes (tIf (tTest (tOp rIsN (tVar 8) (tC .non))) (tC (.str "-")) (tCB rStrIS (tCons (tVar 8) tNil))) [8])) tNil)))
        (tSeq (tAsg (tOp rCat (tVar 1) (tLst (tCons (tLst (tCons (tC (.str "pace")) (tCons (tIf (tTest (tOp rIsN (tDGet (tVar 0) (tC (.str "pace"))) (tC .non))) (tC (.str "free")) (tCB rStrI (tCons (tDGet (tVar 0) (tC (.str "pace"))) tNil))) tNil))) (tCons (tLst (tCons (tC (.str "need")) (tCons (tDGet (tVar 0) (tC (.str "need"))) tNil))) (tCons (tLst (tCons (tC (.str "slide")) (tCons (tIf (tB (tDGet (tVar 0) (tC (.str "slide")))) (tC (.str "yes")) (tC (.str "no"))) tNil))) tNil))))) (gName 1))
        (tRet (tOp rCat (tVar 1) (tLst (tCons (tOp rCat (tLst (tCons (tC (.str "asked")) tNil)) (tCB (rListOf K) (tCons (tDGet (tVar 0) (tC (.str "asked"))) tNil))) tNil))))))
        { nx := fun _ H' => Q .non H', rt := Q } [some (.ref d), some (.ref p2), s2, s3, some (.str (wordC h.coll)), some vr2, none, none, none] H4 := fun vr2 ds H4 e4 rr hl hok hcw => by
      have m4 := m3.ex e4
      have hlc := ev_map (i := 8) (σ := [some (.ref d), some (.ref p2), s2, s3, some (.str (wordC h.coll)), some vr2, none, none, none]) (te := tIf (tTest (tOp rIsN (tVar 8) (tC .non))) (tC (.str "-")) (tCB rStrIS (tCons (tVar 8) tNil))) (f := fun e => .str (partD e)) m4 (ei_seq m4 (ev_var (i := 5) m4 rfl rr) rfl) (by show ds.length ≤ _; omega) fun S' H' m' up ex z e he rz => ⟨rfl, ev_partS m' rfl rz (hok e he)⟩
      have hrow : EvD K (plus S p2) (tOp rCat (tLst (tCons (tC (.str "collector")) (tCons (tVar 4) tNil))) (tLc (iSeq K (tVar 5)) (gName 8) tYes (tIf (tTest (tOp rIsN (tVar 8) (tC .non))) (tC (.str "-")) (tCB rStrIS (tCons (tVar 8) tNil))) [8])) [some (.ref d), some (.ref p2), s2, s3, some (.str (wordC h.coll)), some vr2, none, none, none] H4 (lD (collW h.coll)) := by
        refine (ev_op m4 (ev_row2 m4 (ev_var (i := 4) m4 rfl (.str (wordC h.coll)))) hlc (r_cat m4 (by show 2 + (ds.map _).length ≤ _; rw [List.length_map]; omega))).is ?_
        rw [← hcw]
        show D.lst ([D.str "collector", .str (wordC h.coll)] ++ ds.map fun e => .str (partD e)) = D.lst (D.str "collector" :: .str (wordC h.coll) :: (ds.map partD).map D.str)
        rw [List.map_map]; rfl
      have r4 := (r2.mono (.of m2 e3)).mono (.of m3 e4)
      have hp4 : H4 p2 = some (.lst us2) := e4 _ _ (e3 _ _ hp2v)
      refine ts_appD (i := 1) m4 rfl hp4 (.inr rfl) r4 hrow (by rw [List.length_append, List.length_cons, List.length_map]; have := P.k2; show _ + 1 + 3 ≤ _; omega) fun us5 H5 x5 m5 u5 hp5 r5 => ?_
      have E5 : Ex G H5 := ex_new (e2.trans (e3.trans e4)) hp2 x5
      have mS5 := mS.ex E5
      have rl5 := back mS hp2 hp5 r5
      have hpace : EvD K S (tIf (tTest (tOp rIsN (tDGet (tVar 0) (tC (.str "pace"))) (tC .non))) (tC (.str "free")) (tCB rStrI (tCons (tDGet (tVar 0) (tC (.str "pace"))) tNil))) [some (.ref d), some (.ref p2), s2, s3, some (.str (wordC h.coll)), some vr2, none, none, none] H5 (.str (optS "free" h.pace)) := by
        have a0 : EvD K S (tDGet (tVar 0) (tC (.str "pace"))) [some (.ref d), some (.ref p2), s2, s3, some (.str (wordC h.coll)), some vr2, none, none, none] H5 (optD h.pace) := q E5 rfl (by decide +kernel) rfl
        have hP := P.pace
        revert a0 hP
        cases h.pace with
        | none => exact fun a0 _ => ev_if (b := true) (eb_T (ev_op mS5 a0 ev_non r_isN)) (fun _ => ev_str) fun z => by cases z
        | some i => exact fun a0 hP => ev_if (b := false) (eb_T (ev_op mS5 a0 ev_non r_isN)) (fun z => by cases z) fun _ => ev_str12 mS5 a0 (hP i rfl).1 (by have := (hP i rfl).2; omega)
      have hslide : EvD K S (tIf (tB (tDGet (tVar 0) (tC (.str "slide")))) (tC (.str "yes")) (tC (.str "no"))) [some (.ref d), some (.ref p2), s2, s3, some (.str (wordC h.coll)), some vr2, none, none, none] H5 (.str (truthW h.slide)) := by
        have a0 : EvD K S (tDGet (tVar 0) (tC (.str "slide"))) [some (.ref d), some (.ref p2), s2, s3, some (.str (wordC h.coll)), some vr2, none, none, none] H5 (.bl h.slide) := q E5 rfl (by decide +kernel) rfl
        revert a0
        cases h.slide with
        | false => exact fun a0 => ev_if (b := false) (eb_B a0) (fun z => by cases z) fun _ => ev_str
        | true => exact fun a0 => ev_if (b := true) (eb_B a0) (fun _ => ev_str) fun z => by cases z
      have hcat := ev_op mS5 (ev_var (i := 1) (σ := [some (.ref d), some (.ref p2), s2, s3, some (.str (wordC h.coll)), some vr2, none, none, none]) mS5 rfl rl5) (ev_lst (ds := [lD ["pace", optS "free" h.pace], lD ["need", h.need], lD ["slide", truthW h.slide]]) mS5 (ea_cons mS5 (ev_row2 mS5 hpace) (ea_cons mS5 (ev_row2 mS5 (q (f := "need") (e := .str h.need) E5 rfl (by decide +kernel) rfl)) (ea_cons mS5 (ev_row2 mS5 hslide) ea_nil))) (by show 3 ≤ _; decide)) (r_cat mS5 (by rw [List.length_append, List.length_append, List.length_cons, List.length_map]; have := P.k2; show _ + 1 + 3 + 1 + 3 ≤ _; omega))
      refine ts_set hcat fun v6 H6 e6 r6 => ?_
      have E6 := E5.trans e6
      have mS6 := mS.ex E6
      have hal : h.asked.length ≤ 1000 := P.asked.len
      have hasked : EvD K S (tLst (tCons (tOp rCat (tLst (tCons (tC (.str "asked")) tNil)) (tCB (rListOf K) (tCons (tDGet (tVar 0) (tC (.str "asked"))) tNil))) tNil)) [some (.ref d), some v6, s2, s3, some (.str (wordC h.coll)), some vr2, none, none, none] H6 (.lst [lD ("asked" :: h.asked)]) :=
        ev_lst (ds := [lD ("asked" :: h.asked)]) mS6 (ev_a1 ((ev_op mS6 (ev_lst mS6 (ea_cons mS6 (ev_str (i := "asked")) ea_nil) (by show 1 ≤ _; decide)) (es_list mS6 seq_T (q (e := strsT h.asked) E6 rfl (by decide +kernel) rfl)) (r_cat mS6 (by rw [List.length_map]; show 1 + _ ≤ _; omega))).is rfl)) (by show 1 ≤ _; decide)
      refine ts_ret (K := K) (S := S) (ev_op mS6 (ev_var (i := 1) (σ := [some (.ref d), some v6, s2, s3, some (.str (wordC h.coll)), some vr2, none, none, none]) mS6 rfl r6) hasked (r_cat mS6 (by rw [List.length_append, List.length_append, List.length_append, List.length_cons, List.length_map]; have := P.k2; show _ + 1 + 3 + 1 + 3 + 1 ≤ _; omega))) fun v7 H7 e7 r7 => ?_
      refine k v7 H7 (E1.trans (E6.trans e7)) ?_
      rw [linesD_eq]
      have e : (lD ["cells", istr h.cells] :: h.kinds.map fun kd => lD (kindW kd)) ++ [lD ["registers", istr h.registers], lD ["live", istr h.live], lD ["rooms", h.rooms]] ++ [lD (collW h.coll)] ++ [lD ["pace", optS "free" h.pace], lD ["need", h.need], lD ["slide", truthW h.slide]] ++ [lD ("asked" :: h.asked)] = (houseL h).map lD := by
        show _ = lD ["cells", istr h.cells] :: (h.kinds.map kindW ++ tailL h).map lD
        rw [List.map_append, List.map_map]
        simp only [List.cons_append, List.append_assoc]
        rfl
      rw [← e]
      exact r7
    -- the if
    refine ts_ifseq (teq (K := K) (S := plus S p2) (x := "marks") m3 (ev_var (i := 4) (σ := [some (.ref d), some (.ref p2), s2, s3, some (.str (wordC h.coll)), some vr, none, none, none]) m3 rfl (.str (wordC h.coll))) wo (by decide +kernel)) fun H4 e4 => ?_
    have m4 := m3.ex e4
    have rr4 := rr3.mono (.of m3 e4)
    by_cases hc : wordC h.coll = "marks"
    · rw [decide_eq_true hc, if_pos rfl]
      obtain ⟨gs, hgs⟩ : ∃ gs, h.coll = .marks gs := by
        cases hcc : h.coll with
        | marks gs => exact ⟨gs, rfl⟩
        | none => rw [hcc] at hc; exact absurd hc (show ¬ ("none" : Str) = "marks" by decide +kernel)
        | halves => rw [hcc] at hc; exact absurd hc (show ¬ ("halves" : Str) = "marks" by decide +kernel)
        | counts _ _ => rw [hcc] at hc; exact absurd hc (show ¬ ("counts" : Str) = "marks" by decide +kernel)
        | young _ _ => rw [hcc] at hc; exact absurd hc (show ¬ ("young" : Str) = "marks" by decide +kernel)
      have okc := P.coll
      rw [hgs] at okc
      have hgl : gs.length ≤ 1000 := WLotOk.len okc
      have hr1 : EvD K (plus S p2) (tCB (rListOf K) (tCons (tOp (rIx K) (tVar 5) (tC (.int 0))) tNil)) [some (.ref d), some (.ref p2), s2, s3, some (.str (wordC h.coll)), some vr, none, none, none] H4 (.lst (gs.map D.str)) := es_list m4 (seq_T (l := gs)) (ev_op m4 (ev_var (i := 5) m4 rfl rr4) ev_int (r_ixQ' (j := 0) (.inl rfl) rfl (by rw [hgs]; rfl)))
      refine hr1 H4 (Evl.Ex.refl _) _ fun vr2 H5 e5 r5 => ?_
      refine fin vr2 _ H5 (e4.trans e5) r5 (by rw [List.length_map]; exact hgl) (fun e he => ?_) ?_
      · obtain ⟨s, _, rfl⟩ := List.mem_map.mp he
        exact .inr (.inr ⟨s, rfl⟩)
      · rw [hgs, List.map_map]
        show ("collector" : Str) :: ("marks" : Str) :: gs.map _ = ("collector" : Str) :: ("marks" : Str) :: gs
        congr 2
        conv => rhs; rw [← List.map_id gs]
        rfl
    · rw [decide_eq_false hc, if_neg Bool.false_ne_true]
      refine tn_seq (fin vr _ H4 e4 rr4 (by have : (restC h.coll).length ≤ 2 := by cases h.coll <;> simp [restC]
                                            omega) (rest_ok P.coll hc) ?_)
      cases hcc : h.coll with
      | none => rfl
      | halves => rfl
      | counts mm oo => cases mm <;> rfl
      | young nn rr => rfl
      | marks gs => rw [hcc] at hc; exact absurd rfl hc
end
end Nv
set_option Elab.async false
set_option linter.all false
set_option maxRecDepth 100000
set_option maxHeartbeats 4000000
/-! _law_heard of a lambda that raises BadHouse. -/
namespace Nv
open PySem PySem.Spec PyProof.Rows L2 StX NvZ LamX
abbrev st_heard : Stmt := PySem.Challenge.pw_nevergone_k91_texts_of_houses_written_an.main.body.getD 77 (.Pass ⟨0, 0, 0, 0⟩)
abbrev nHeard : List Str := ["ask", "told", "caught", "error", "kinds", "words", "word", "is_so"]
theorem sc_heard : FnScope nHeard ["ask"] (defScope st_heard) := ⟨rfl, rfl, rfl, by decide +kernel, rfl, by decide +kernel, by decide +kernel⟩
/-- the classes of the exceptions -/
structure Cs where
  g : Addr
  t : Addr
  x : Addr
  p : Addr
  l : Addr
  hp : Addr
  st : Addr
  nu : Addr
  va : Addr
  mi : Addr
  no : Addr
structure HxE (A : Ads) (K : PySem.W.Frag) (mg : Str → Option Value) (c : Cs) : Prop where
  gG : mg "GoneError" = some (.ref c.g)
  gT : mg "TooMany" = some (.ref c.t)
  gX : mg "BadText" = some (.ref c.x)
  gP : mg "BadProgram" = some (.ref c.p)
  gL : mg "BadLine" = some (.ref c.l)
  gH : mg "BadHouse" = some (.ref A.cBadHouse)
  gHp : mg "BadHeap" = some (.ref c.hp)
  gS : mg "BadStep" = some (.ref c.st)
  gN : mg "BadNumber" = some (.ref c.nu)
  gV : mg "BadValue" = some (.ref c.va)
  gM : mg "Misfit" = some (.ref c.mi)
  gO : mg "Nothing" = some (.ref c.no)
  e : PySem.W.exmOne K (.ref A.cBadHouse) (.ref c.g) = some true
  x : ExcC K A.cBadHouse
  f : XfC K A.cBadHouse
  nPart : PySem.W.findIn K (.ref A.cBadHouse) "part" = some none
  no : ∀ z ∈ [c.t, c.x, c.p, c.l, c.hp, c.st, c.nu, c.va, c.mi, c.no], PySem.W.kitOne K (.ref A.cBadHouse) (.ref z) = some false
  yes : PySem.W.kitOne K (.ref A.cBadHouse) (.ref A.cBadHouse) = some true
abbrev dHH : D := .tup [.str "house", .str "house"]
/-- the lambda raises BadHouse("house") -/
def Does (K : PySem.W.Frag) (A : Ads) (H : Hp) (tl : XK → Hp → VK → Prop) : Prop := ∀ (Q : VK) (E : XK), (∀ p H2, Ex H H2 → H p = none → H2 p = some (.xd [("part", .str "house")]) → E (.ref A.cBadHouse) (some p) H2) → tl E H Q
def TTh (K : PySem.W.Frag) (A : Ads) (tl : XK → Hp → VK → Prop) (H : Hp) (Q : VK) : Prop := ∃ S, Mem S H ∧ (∀ H1, Ex H H1 → Does K A H1 tl) ∧ ∀ v H', Ex H H' → Rp K S H' v dHH → Q v H'
def EW (W : WX) : XK := fun cls d H' => ∀ σ', σ'.length = 8 → W cls d σ' H'
abbrev tsH : TS := tAsg (tVar 3) (gName 2)
abbrev isX (K : PySem.W.Frag) (c : Addr) : TE := tCB (rIsX K) (tCons (tVar 2) (tCons (tC (.ref c)) tNil))
abbrev rowX (K : PySem.W.Frag) (w : Str) (c : Addr) : TE := tTup (tCons (tC (.str w)) (tCons (isX K c) tNil))
abbrev restH (K : PySem.W.Frag) (A : Ads) (c : Cs) : TS :=
  tSeq (tIfS (tTest (tOp rIsN (tVar 2) (tC .non))) tNever tNext)
  (tSeq (tIfS (tB (isX K c.t)) tNever tNext)
  (tSeq (tIfS (tB (isX K c.x)) tNever tNext)
  (tSeq (tIfS (tB (isX K c.p)) tNever tNext)
  (tSeq (tIfS (tB (isX K c.l)) tNever tNext)
  (tSeq (tAsg (tLst (tCons (rowX K "house" A.cBadHouse) (tCons (rowX K "heap" c.hp) (tCons (rowX K "step" c.st) tNil)))) (gName 4))
  (tSeq (tAsg (tOp rCat (tVar 4) (tLst (tCons (rowX K "number" c.nu) (tCons (rowX K "value" c.va) tNil)))) (gName 4))
  (tSeq (tAsg (tOp rCat (tVar 4) (tLst (tCons (rowX K "misfit" c.mi) (tCons (rowX K "nothing" c.no) tNil)))) (gName 4))
  (tSeq (tAsg (tLc (iSeq K (tVar 4)) (g2 K 6 7) (tB (tVar 7)) (tVar 6) [6, 7]) (gName 5))
  (tRet (tIf (tTest (tOp (rEqD K) (tCB (rLenV K) (tCons (tVar 5) tNil)) (tC (.int 1)))) (tTup (tCons (tOp (rIx K) (tVar 5) (tC (.int 0))) (tCons (tXt K "part" (tVar 2)) tNil))) (tTup (tCons (tC (.str "other")) tNil)))))))))))) 
def tryT (tb : WX → TS) (Wf : Ends → WX) : TS := fun D σ H => tb (Wf D) D σ H
def tbH (f c' : Addr) (q : Str) (tl : XK → Hp → VK → Prop) : WX → TS := fun W => tAsg (fun σZ HZ Q => σZ[0]? = some (some (.ref f)) ∧ HZ c' = some (CodeO c' q) ∧ tl (EW W) HZ Q) (gName 1)
def wfH (K : PySem.W.Frag) (cG : Addr) : Ends → WX := wAx K (.ref cG) 3 tsH (fun _ _ _ _ => False)
def tHeard (K : PySem.W.Frag) (A : Ads) (c : Cs) (f c' : Addr) (q : Str) (tl : XK → Hp → VK → Prop) : TS :=
  tSeq (tAsg (tTup (tCons (tC .non) (tCons (tC .non) tNil))) (g2 K 1 2))
  (tSeq (tryT (tbH f c' q tl) (wfH K c.g))
  (restH K A c))
def prD : D → Bool
  | .tup [_, .bl b] => b
  | _ => false
def fsD : D → D
  | .tup [d, _] => d
  | _ => .non
section
variable {K : PySem.W.Frag} {A : Ads} {S : Addr → Prop} {σ : L2.St} {H H' : Hp} {mg : Str → Option Value} {c : Cs}
theorem ev_isX {i : Nat} {a p z : Addr} {b : Bool} {fs : List (Str × V)} (h : HxE A K mg c) (hσ : σ[i]? = some (some (.ref a))) (ha : H a = some (ExT (.ref A.cBadHouse) (some p) a)) (hp : H p = some (.xd fs)) (hk : PySem.W.kitOne K (.ref A.cBadHouse) (.ref z) = some b) :
    EvD K S (tCB (rIsX K) (tCons (tVar i) (tCons (tC (.ref z)) tNil))) σ H (.bl b) := fun H1 e Q q => ⟨.ref a, hσ, a, A.cBadHouse, p, fs, .ref z, .ref z, b, rfl, h.x, e _ _ ha, e _ _ hp, .own z, hk, q _ H1 (Evl.Ex.refl _) (.bl b)⟩
theorem ev_part {i : Nat} {a p : Addr} (h : HxE A K mg c) (hσ : σ[i]? = some (some (.ref a))) (ha : H a = some (ExT (.ref A.cBadHouse) (some p) a)) (hp : H p = some (.xd [("part", .str "house")])) : EvD K S (tXt K "part" (tVar i)) σ H (.str "house") := fun H1 e Q q =>
  ⟨.ref a, hσ, a, A.cBadHouse, p, _, .str "house", rfl, h.f, h.nPart, e _ _ ha, e _ _ hp, rfl, q _ H1 (Evl.Ex.refl _) (.str _)⟩
theorem eb_isn {i : Nat} {a : Addr} (hσ : σ[i]? = some (some (.ref a))) : EvB (tTest (tOp rIsN (tVar i) (tC .non))) σ H false := fun H1 e Q q => ⟨.ref a, hσ, rfl, false, rfl, q H1 (Evl.Ex.refl _)⟩
theorem rest_exc (h : HxE A K mg c) {s0 s1 s3 s4 s5 s6 s7 : Option V} {a p : Addr} {Q : VK} (m : Mem S H) (ha : H a = some (ExT (.ref A.cBadHouse) (some p) a)) (hp : H p = some (.xd [("part", .str "house")]))
    (k : ∀ v H', Ex H H' → Rp K S H' v dHH → Q v H') : restH K A c { nx := fun _ H' => Q .non H', rt := Q } [s0, s1, some (.ref a), s3, s4, s5, s6, s7] H := by
  have isF : ∀ {z : Addr} {σ2 : L2.St} {G : Hp}, Ex H G → σ2[2]? = some (some (.ref a)) → z ∈ [c.t, c.x, c.p, c.l, c.hp, c.st, c.nu, c.va, c.mi, c.no] → EvD K S (isX K z) σ2 G (.bl false) := fun e hσ hz => ev_isX h hσ (e _ _ ha) (e _ _ hp) (h.no _ hz)
  refine ts_ifseq (eb_isn rfl) fun H1 e1 => ?_
  rw [if_neg Bool.false_ne_true]
  refine tn_seq (ts_ifseq (eb_B (isF e1 rfl (by simp))) fun H2 e2 => ?_)
  rw [if_neg Bool.false_ne_true]
  have E2 := e1.trans e2
  refine tn_seq (ts_ifseq (eb_B (isF E2 rfl (by simp))) fun H3 e3 => ?_)
  rw [if_neg Bool.false_ne_true]
  have E3 := E2.trans e3
  refine tn_seq (ts_ifseq (eb_B (isF E3 rfl (by simp))) fun H4 e4 => ?_)
  rw [if_neg Bool.false_ne_true]
  have E4 := E3.trans e4
  refine tn_seq (ts_ifseq (eb_B (isF E4 rfl (by simp))) fun H5 e5 => ?_)
  rw [if_neg Bool.false_ne_true]
  have E5 := E4.trans e5
  have row : ∀ {w : Str} {z : Addr} {b : Bool} {σ2 : L2.St} {G : Hp}, Mem S G → EvD K S (isX K z) σ2 G (.bl b) → EvD K S (rowX K w z) σ2 G (.tup [.str w, .bl b]) := fun mg he => ev_tup mg (ea_cons mg ev_str (ea_cons mg he ea_nil)) (by show 2 ≤ _; decide)
  have m5 := m.ex E5
  refine tn_seq (ts_set (ev_lst m5 (ea_cons m5 (row m5 (ev_isX h rfl (E5 _ _ ha) (E5 _ _ hp) h.yes)) (ea_cons m5 (row m5 (isF E5 rfl (by simp))) (ea_cons m5 (row m5 (isF E5 rfl (by simp))) ea_nil))) (by show 3 ≤ _; decide)) fun v6 H6 e6 r6 => ?_)
  have E6 := E5.trans e6
  have m6 := m.ex E6
  refine ts_set (ev_op m6 (ev_var (i := 4) (σ := [s0, s1, some (.ref a), s3, some v6, s5, s6, s7]) m6 rfl r6) (ev_lst m6 (ea_cons m6 (row m6 (isF E6 rfl (by simp))) (ea_cons m6 (row m6 (isF E6 rfl (by simp))) ea_nil)) (by show 2 ≤ _; decide)) (r_cat m6 (by show 3 + 2 ≤ _; decide))) fun v7 H7 e7 r7 => ?_
  have E7 := E6.trans e7
  have m7 := m.ex E7
  refine ts_set (ev_op m7 (ev_var (i := 4) (σ := [s0, s1, some (.ref a), s3, some v7, s5, s6, s7]) m7 rfl r7) (ev_lst m7 (ea_cons m7 (row m7 (isF E7 rfl (by simp))) (ea_cons m7 (row m7 (isF E7 rfl (by simp))) ea_nil)) (by show 2 ≤ _; decide)) (r_cat m7 (by show 5 + 2 ≤ _; decide))) fun v8 H8 e8 r8 => ?_
  have E8 := E7.trans e8
  have m8 := m.ex E8
  have hi := ei_seq (K := K) (S := S) (σ := [s0, s1, some (.ref a), s3, some v8, s5, s6, s7]) m8 (ev_var (i := 4) m8 rfl r8) rfl
  have hlc := ev_lc (g := g2 K 6 7) (tt := tB (tVar 7)) (te := tVar 6) (vs := [6, 7]) (p := prD) (f := fsD) m8 hi (by show 7 ≤ _; decide) (fun S' H' m' up ex x d hd rx => by
    have hd' : ∃ w b, d = .tup [.str w, .bl b] := by
      have : d ∈ ([.tup [.str "house", .bl true], .tup [.str "heap", .bl false], .tup [.str "step", .bl false], .tup [.str "number", .bl false], .tup [.str "value", .bl false], .tup [.str "misfit", .bl false], .tup [.str "nothing", .bl false]] : List D) := hd
      simp only [List.mem_cons, List.not_mem_nil, or_false] at this
      rcases this with rfl | rfl | rfl | rfl | rfl | rfl | rfl <;> exact ⟨_, _, rfl⟩
    obtain ⟨w, b, rfl⟩ := hd'
    exact g2_of rx fun z1 z2 q1 q2 => ⟨Evl.Ex.refl _, rfl, eb_B (ev_var (K := K) (S := S') (i := 7) m' rfl q2), fun _ => ev_var (i := 6) m' rfl q1⟩) g2_mono
  have hl1 : EvD K S _ [s0, s1, some (.ref a), s3, some v8, s5, s6, s7] H8 (.lst [.str "house"]) := hlc
  refine ts_set hl1 fun v9 H9 e9 r9 => ?_
  have E9 := E8.trans e9
  have m9 := m.ex E9
  have v5 : EvD K S (tVar 5) [s0, s1, some (.ref a), s3, some v8, some v9, s6, s7] H9 (.lst [.str "house"]) := ev_var (i := 5) m9 rfl r9
  refine ts_ret (K := K) (S := S) (ev_if (b := true) (d := dHH) (eb_T (eq_len m9 (.inl rfl) v5)) (fun _ => ev_tup m9 (ea_cons m9 (ev_op m9 v5 ev_int (r_ixQ' (j := 0) (.inl rfl) rfl rfl)) (ea_cons m9 (ev_part h rfl (E9 _ _ ha) (E9 _ _ hp)) ea_nil)) (by show 2 ≤ _; decide)) fun z => by cases z) fun v10 H10 e10 r10 => ?_
  exact k v10 H10 (E9.trans e10) r10
theorem hd_par {i j : Nat} {r : TS} {D0 : Ends} (m : Mem S H) (h : ∀ H1, Ex H H1 → r D0 ((σ.set i (some .non)).set j (some .non)) H1) : tSeq (tAsg (tTup (tCons (tC .non) (tCons (tC .non) tNil))) (g2 K i j)) r D0 σ H := by
  refine ⟨by show 2 ≤ sizeLine; decide, fun t ht => ?_⟩
  exact ⟨t, [.non, .non], rfl, SqT.of upd_same, rfl, _, _, rfl, _, _, rfl, rfl, h _ (Evl.Ex.new ht)⟩
theorem hd_try {tb : WX → TS} {W : Ends → WX} {r : TS} {D0 : Ends} (h : tb (W { D0 with nx := r D0 }) { D0 with nx := r D0 } σ H) : tSeq (tryT tb W) r D0 σ H := h
theorem hd_tb {f c' : Addr} {q : Str} {tl : XK → Hp → VK → Prop} {W : WX} {D0 : Ends} (h : σ[0]? = some (some (.ref f)) ∧ H c' = some (CodeO c' q) ∧ tl (EW W) H fun v H1 => D0.nx (σ.set 1 (some v)) H1) : tbH f c' q tl W D0 σ H := h
/-- the exceptions' wish -/
theorem exc_ew (h : HxE A K mg c) {p : Addr} {H2 : Hp} {Q : VK} {D1 : Ends} (m : Mem S H2) (hp : H2 p = some (.xd [("part", .str "house")]))
    (k : ∀ v H', Ex H2 H' → Rp K S H' v dHH → Q v H') (hnx : ∀ σ H, restH K A c { nx := fun _ H' => Q .non H', rt := Q } σ H → D1.nx σ H) : EW (wAx K (.ref c.g) 3 tsH (fun _ _ _ _ => False) D1) (.ref A.cBadHouse) (some p) H2 := by
  intro σ' hl
  refine ⟨true, h.e, fun _ a ha => ?_, fun z => by cases z⟩
  match σ', hl with
  | [s0, s1, s2, s3, s4, s5, s6, s7], _ =>
    have eN : Ex H2 (upd H2 a (ExT (.ref A.cBadHouse) (some p) a)) := Evl.Ex.new ha
    refine ⟨.ref a, rfl, ?_⟩
    exact hnx _ _ (rest_exc h (s0 := s0) (s1 := s1) (s3 := none) (s4 := s4) (s5 := s5) (s6 := s6) (s7 := s7) (m.ex eN) upd_same (eN _ _ hp) fun v H' e r' => k v H' (eN.trans e) r')
theorem pr_heard (h : HxE A K mg c) {f c' : Addr} {q : Str} {tl : XK → Hp → VK → Prop} {Q : VK} (hc : H c' = some (CodeO c' q)) (t : TTh K A tl H Q) : tHeard K A c f c' q tl { nx := fun _ H' => Q .non H', rt := Q } [some (.ref f), none, none, none, none, none, none, none] H := by
  obtain ⟨S, m, hd, k⟩ := t
  unfold tHeard
  refine hd_par m fun H1 e1 => hd_try (hd_tb ⟨rfl, e1 _ _ hc, hd H1 e1 _ _ ?_⟩)
  exact fun p H2 e2 _ hp => exc_ew h (m.ex (e1.trans e2)) hp (fun v H' e r' => k v H' ((e1.trans e2).trans e) r') fun _ _ z => z
theorem pss_nev {X : Cx} {b : Stmt} {bs : List Stmt} : PSs X (b :: bs) tNever := by
  refine ⟨fun pins s σ H D I h => h.elim⟩
abbrev L3 (i : Nat) : Nat := i
/-- the body of the def -/
theorem gives_heard {X : Cx} {A : Ads} {c : Cs} {g : Addr} {cdg : Value} {q : Str} (B : Blt X.mg) (h : HxE A X.K X.mg c) (hu : X.A.units + 100 < cLine) : NvL.Gives X nHeard "_law_heard" (defScope st_heard) g cdg (defBody st_heard) "ask" q (TTh X.K A) := by
  intro f c' s H Q tl hcall hc ht
  have nd := sc_heard.nd
  refine ⟨tHeard X.K A c f c' q tl, ?_, pr_heard h hc ht⟩
  refine pss_cons (ps_asg (pe_tup (pa_cons pe_non (pa_cons pe_non pa_nil))) (pg_tup (by rfl) (pgs_cons (pg_name (i := 1) nd rfl (by first | exact Or.inl rfl | exact Or.inr rfl)) (pgs_cons (pg_name (i := 2) nd rfl (by first | exact Or.inl rfl | exact Or.inr rfl)) pgs_nil)))) (pss_cons ?_ (pss_cons (ps_if (pt_cmpR op_isN (pv 2) pe_non (nomark _)) (pss_one ps_never) pss_nil)
    (pss_cons (ps_if (pt_val (pe_callB call_isX rfl B.isi bt_isi (pa_cons (pv 2) (pa_cons (pe_globR h.gT) pa_nil)))) (pss_one ps_never) pss_nil)
    (pss_cons (ps_if (pt_val (pe_callB call_isX rfl B.isi bt_isi (pa_cons (pv 2) (pa_cons (pe_globR h.gX) pa_nil)))) (pss_one ps_never) pss_nil)
    (pss_cons (ps_if (pt_val (pe_callB call_isX rfl B.isi bt_isi (pa_cons (pv 2) (pa_cons (pe_globR h.gP) pa_nil)))) (pss_one ps_never) pss_nil)
    (pss_cons (ps_if (pt_val (pe_callB call_isX rfl B.isi bt_isi (pa_cons (pv 2) (pa_cons (pe_globR h.gL) pa_nil)))) (pss_one ps_never) pss_nil)
    (pss_cons (ps_set (i := 4) nd rfl (by first | exact Or.inl rfl | exact Or.inr rfl) (pe_lst (pa_cons (pe_tup (pa_cons pe_str (pa_cons (pe_callB call_isX rfl B.isi bt_isi (pa_cons (pv 2) (pa_cons (pe_globR h.gH) pa_nil))) pa_nil))) (pa_cons (pe_tup (pa_cons pe_str (pa_cons (pe_callB call_isX rfl B.isi bt_isi (pa_cons (pv 2) (pa_cons (pe_globR h.gHp) pa_nil))) pa_nil))) (pa_cons (pe_tup (pa_cons pe_str (pa_cons (pe_callB call_isX rfl B.isi bt_isi (pa_cons (pv 2) (pa_cons (pe_globR h.gS) pa_nil))) pa_nil))) pa_nil)))))
    (pss_cons (ps_set (i := 4) nd rfl (by first | exact Or.inl rfl | exact Or.inr rfl) (pe_op op_cat (pv 4) (pe_lst (pa_cons (pe_tup (pa_cons pe_str (pa_cons (pe_callB call_isX rfl B.isi bt_isi (pa_cons (pv 2) (pa_cons (pe_globR h.gN) pa_nil))) pa_nil))) (pa_cons (pe_tup (pa_cons pe_str (pa_cons (pe_callB call_isX rfl B.isi bt_isi (pa_cons (pv 2) (pa_cons (pe_globR h.gV) pa_nil))) pa_nil))) pa_nil)))))
    (pss_cons (ps_set (i := 4) nd rfl (by first | exact Or.inl rfl | exact Or.inr rfl) (pe_op op_cat (pv 4) (pe_lst (pa_cons (pe_tup (pa_cons pe_str (pa_cons (pe_callB call_isX rfl B.isi bt_isi (pa_cons (pv 2) (pa_cons (pe_globR h.gM) pa_nil))) pa_nil))) (pa_cons (pe_tup (pa_cons pe_str (pa_cons (pe_callB call_isX rfl B.isi bt_isi (pa_cons (pv 2) (pa_cons (pe_globR h.gO) pa_nil))) pa_nil))) pa_nil)))))
    (pss_cons (ps_setLc (i := 5) (own := [("word", 6), ("is_so", 7)]) (g := g2 X.K 6 7) (tt := tB (tVar 7)) rfl nd rfl rfl (sw_true rfl rfl rfl (by decide +kernel)) (pi_seq (pv 4)) (blkOk_by (N := nHeard) (sc := defScope st_heard) (by decide +kernel)) (fun _ _ _ _ _ => (pg_tup rfl (pgs_cons (pg_name (i := 6) nd rfl (by first | exact Or.inl rfl | exact Or.inr rfl)) (pgs_cons (pg_name (i := 7) nd rfl (by first | exact Or.inl rfl | exact Or.inr rfl)) pgs_nil)))) (fun _ _ _ _ _ => (pts_one (pt_val (pv 7)))) (fun _ _ _ _ _ => (pv 6)))
    (pss_one (ps_ret (pe_ifExp (pt_cmpR (op_eqD ?_) (pe_len B (pv 5)) pe_int (nomark _)) (pe_tup (pa_cons (pe_ix ix_seq (pv 5) pe_int (fun _ _ => rfl)) (pa_cons (pe_xt (pv 2)) pa_nil))) (pe_tup (pa_cons pe_str pa_nil)))))))))))))))
  · exact ps_try_ax (i := 3) rfl rfl rfl nd rfl rfl ⟨rfl, by decide, .inl h.gG⟩ LamX.takes0 (fun W pn xe tk _ => pss_one (ps_set (i := 1) nd rfl (by first | exact Or.inl rfl | exact Or.inr rfl) (hcall W pn xe (EW W) _ _ tk fun cls d σ' H' hl z => z σ' hl)))
      (fun a pn => pss_one (ps_set (i := 2) nd rfl (by first | exact Or.inl rfl | exact Or.inr rfl) (pv 3)))
  · show X.A.units + 3 + 64 < cLine
    omega
end
end Nv
set_option Elab.async false
set_option linter.all false
set_option maxRecDepth 100000
set_option maxHeartbeats 4000000
namespace Nv
open PySem PySem.Spec PyProof.Rows L2 StX NvZ LamX
/-- `_law_heard(lambda ..)` in a context X -/
theorem hl_of {X : Cx} {A : Ads} {cs : Cs} (B : Blt X.mg) (h : HxE A X.K X.mg cs) {k : Nat} {c P g : Addr} {T0 : List (Addr × Str)} {fd : FuncData}
    (hg : Gl X "_law_heard") (hm : X.mg "_law_heard" = some (.ref g)) (Fn : FnP X.K "_law_heard" "_law_heard" st_heard [] g fd)
    (TB : TabB X.base X.mg c P) (hcode : X.env.code = .ref c) (hmT : (P, X.env.qual ++ "<lambda>") ∈ T0) (hu : ∀ p ∈ T0, p.1 = P → p.2 = X.env.qual ++ "<lambda>") (hr : Room (k + 2) X.A)
    {params : Arguments} {body : Expr} {scope : Scope} {t : XK → TE} {p lpos pos : Pos} {ks : List Int} (h1 : params.kw_defaults = []) (h2 : NvL.Dfl params.defaults ks) (h3 : NvL.LamB params body scope ks) (h4 : NvL.LamS3 X.N X.env.scope scope)
    (hb : ∀ (A0 : Around) (o0 : List Env) (s0 : Shared) (H0 : Hp) (E : XK) (f0 c0 : Addr), Room k (A0.deeper (lamEnv X scope s0.heap.objs.size f0 c0)) → PE (lamCx X A0 o0 s0 H0 E scope f0 c0) body (t E)) :
    PE X (.Call (.Name "_law_heard" p) [.Lambda params body scope lpos] [] pos) (tLam T0 (TTh X.K A) t) := by
  obtain ⟨oc, od, dV, kV, doc, pm, an, cdv, ct, osl, rfl, lk, hcd, hD, _⟩ := Fn.ex
  obtain rfl : dV = .none := by
    rcases hD with ⟨_, e⟩ | ⟨z, _⟩
    · exact e
    · exact absurd rfl z
  exact NvL.pe_lamcall3 (T := T0) (TT := TTh X.K A) (x := "_law_heard") (a := "ask") (g := g) hg hm Fn.kp lk hcd
    (Binds.all fun us hl => match us, hl with | [u], _ => by rfl)
    sc_heard rfl (by first | exact Or.inl rfl | exact Or.inr rfl | exact ⟨_, rfl⟩ | decide +kernel) (gives_heard B h (by have := hr.un; omega)) TB hcode hmT hu hr h4 h1 h2 h3 hb
section
variable {A : Ads} {P : Program} {w : World} {K : PySem.W.Frag} {mg : Str → Option Value} {base : Heap}
/-- the law's body reads t_law -/
theorem wt_law (B : Blt mg) (BH : BltH mg) (T : Tx A P w K mg) {cs : Cs} (h : HxE A K mg cs) {k : Nat} {f : Addr} {A' : Around} {outer : List Env} {s : Shared} {H : Hp} {sp_law_pen : Sp} {sp_law_any_plain : Sp} {sp_law_whole_house : Sp} {sp_law_house_lines : Sp} {sp_house_text : Sp} {sp_read_house : Sp} {sp_law_pick : Sp} {sp_eqH : Sp}
  (c_law_pen : Cal P w K mg base CX0 k "_law_pen" ["script"] sp_law_pen) (c_law_any_plain : Cal P w K mg base CX0 k "_law_any_plain" ["pen"] sp_law_any_plain) (c_law_whole_house : Cal P w K mg base CX0 k "_law_whole_house" ["plain"] sp_law_whole_house) (c_law_house_lines : Cal P w K mg base CX0 k "_law_house_lines" ["plain"] sp_law_house_lines) (c_house_text : Cal P w K mg base (L2.CX P w) k "house_text" ["house"] sp_house_text) (c_house_text_by_house : CalK P w K mg base (L2.CX P w) k "house_text" "house" ["house"] [] sp_house_text) (c_read_house : Cal P w K mg base (L2.CX P w) k "read_house" ["text"] sp_read_house) (c_read_house_by_text : CalK P w K mg base (L2.CX P w) k "read_house" "text" ["text"] [] sp_read_house) (c_law_pick : Cal P w K mg base CX0 k "_law_pick" ["pen", "some"] sp_law_pick) (c_eqH : CmpO P w K mg base k A.cHouse sp_eqH)  {c Pt g : Addr} {fdg : FuncData} (hm : mg "_law_heard" = some (.ref g)) (Fn : FnP K "_law_heard" "_law_heard" st_heard [] g fdg) (TB : TabB base mg c Pt)
  (hr : Room (k + 2) (A'.deeper (envOfC "law" (defScope st_law) s.heap.objs.size f (.ref c)))) (hG : (A'.deeper (envOfC "law" (defScope st_law) s.heap.objs.size f (.ref c))).guards = some []) :
  PSs (cxOf CX0 P w K mg base ["script", "pen", "before", "turn", "plain", "house", "due", "again", "told", "odd", "line", "part"] "law" (defScope st_law) f (.ref c) A' outer s H E0).nox (defBody st_law) (t_law K A [(Pt, "law" ++ ".<locals>." ++ "<lambda>")] (TTh K A) sp_law_pen sp_law_any_plain sp_law_whole_house sp_law_house_lines sp_house_text sp_read_house sp_law_pick sp_eqH) :=
  ws_law (cdv := .ref c) B BH T c_law_pen c_law_any_plain c_law_whole_house c_law_house_lines c_house_text c_house_text_by_house c_read_house c_read_house_by_text c_law_pick c_eqH (hr.mono (by omega)) hG fun h1 h2 h3 h4 hb => hl_of (k := k) (c := c) (P := Pt) B h (by rfl) hm Fn TB (by rfl) (by simp <;> rfl) (fun p hp z => by simp at hp; rw [hp]; rfl) hr h1 h2 h3 h4 hb
end
end Nv
set_option Elab.async false
set_option linter.all false
set_option maxRecDepth 100000
set_option maxHeartbeats 4000000
/-! The law's state. -/
namespace Nv
open PySem PySem.Spec PyProof.Rows L2 StX NvZ LamX
/-- the one mutable object: the pen -/
abbrev SP (p : Addr) : Addr → Prop := fun b => b = p
/-- all but the pen and the tables stay -/
def Stp (p : Addr) (H H' : Hp) : Prop := ∀ b o, b ≠ p → H b = some o → (∀ ps, o ≠ .tbl ps) → H' b = some o
section
variable {K : PySem.W.Frag} {A : Ads} {T : List (Addr × Str)} {p q : Addr} {n m : Nat} {σ : L2.St} {H H' H2 : Hp} {h g : Hs} {coD : D}
theorem Stp.refl : Stp p H H := fun _ _ _ h _ => h
theorem Stp.trans (a : Stp p H H') (b : Stp p H' H2) : Stp p H H2 := fun c o n h t => b c o n (a c o n h t) t
theorem Stp.ex (e : Ex H H') : Stp p H H' := fun b o _ h _ => e b o h
theorem Stp.ex1 (e : Ex1 p H H') : Stp p H H' := fun b o n h _ => e b o n h
theorem Stp.exN (e : ExtN H H') : Stp p H H' := fun b o _ h t => e b o h t
theorem SL.stp {a : Addr} {xs : List V} (e : Stp p H H') (h : SL K (SP p) H a xs) : SL K (SP p) H' a xs := ⟨e _ _ h.2 h.1 (fun _ z => by cases z), h.2⟩
theorem ST.stp {a : Addr} {xs : List V} (e : Stp p H H') (h : ST K (SP p) H a xs) : ST K (SP p) H' a xs := by
  rcases h with ⟨h | ⟨o, h⟩, n⟩ | h
  · exact .inl ⟨.inl (e _ _ n h (fun _ z => by cases z)), n⟩
  · exact .inl ⟨.inr ⟨o, e _ _ n h (fun _ z => by cases z)⟩, n⟩
  · exact .inr h
mutual
theorem Rp.stp (e : Stp p H H') : ∀ {d : D} {v : V}, Rp K (SP p) H v d → Rp K (SP p) H' v d
  | .non, _, h => by cases h; exact .non
  | .bl b, _, h => by cases h; exact .bl b
  | .int i, _, h => by cases h; exact .int i
  | .str x, _, h => by cases h; exact .str x
  | .lst ds, _, h => by
    cases h with
    | lst h1 h2 => exact .lst (h1.stp e) (RpA.stp e h2)
  | .tup ds, _, h => by
    cases h with
    | tup h1 h2 => exact .tup (h1.stp e) (RpA.stp e h2)
  | .dic, _, h => by
    cases h with
    | dic h1 h2 => exact .dic (e _ _ h2 h1 fun _ z => by cases z) h2
  | .ins C, _, h => by
    cases h with
    | ins h1 h2 => exact .ins (e _ _ h2 h1 fun _ z => by cases z) h2
theorem RpA.stp (e : Stp p H H') : ∀ {ds : List D} {vs : List V}, RpA K (SP p) H vs ds → RpA K (SP p) H' vs ds
  | [], _, h => by cases h; exact .nil
  | d :: ds, _, h => by
    cases h with
    | cons h1 h2 => exact .cons (Rp.stp e h1) (RpA.stp e h2)
end
theorem HouseAt.stp (e : Stp p H H') (a : HouseAt K A (SP p) H q h) : HouseAt K A (SP p) H' q h := by
  obtain ⟨n, dx, vs, h1, h2⟩ := a
  exact ⟨n, dx, vs, e _ _ n h1 (fun _ z => by cases z), h2.stp e⟩
theorem PlainAt.stp (e : Stp p H H') (n : ¬ SP p q) (a : PlainAt K (SP p) H q g coD) : PlainAt K (SP p) H' q g coD := by
  obtain ⟨kv, pa, ak, co, h, r1, r2, r3, r4⟩ := a
  exact ⟨kv, pa, ak, co, e _ _ n h (fun _ z => by cases z), r1.stp e, r2.stp e, r3.stp e, r4.stp e⟩
/-- the pen and the tables stand -/
structure LS (K : PySem.W.Frag) (T : List (Addr × Str)) (p : Addr) (n : Nat) (H : Hp) : Prop where
  pen : PenAt K (SP p) H p n
  tabs : Tabs T H
theorem LS.mem (L : LS K T p n H) : Mem (SP p) H := fun b s => by
  obtain ⟨o, h⟩ := L.pen.there
  exact ⟨o, by rw [show b = p from s]; exact h⟩
theorem LS.le (L : LS K T p n H) (h : n ≤ m) : LS K T p m H := ⟨L.pen.le h, L.tabs⟩
theorem LS.ex (L : LS K T p n H) (e : Ex H H') : LS K T p n H' := ⟨L.pen.ex L.mem e, L.tabs.ext e⟩
theorem tabs_ex1 {kvs : List (Key × V)} (hp : H p = some (.dK kvs)) (e : Ex1 p H H') (t : Tabs T H) : Tabs T H' := fun x hx => by
  obtain ⟨ps, h1, h2, h3⟩ := t x hx
  refine ⟨ps, e _ _ (fun z => ?_) h1, h2, fun pos cv hc => ?_⟩
  · rw [z, hp] at h1; cases h1
  · obtain ⟨c, e1, e2⟩ := h3 pos cv hc
    refine ⟨c, e1, e _ _ (fun z => ?_) e2⟩
    rw [z, hp] at e2; cases e2
theorem LS.ex1 (L : LS K T p n H) (e : Ex1 p H H') (h : PenAt K (SP p) H' p m) : LS K T p m H' := by
  obtain ⟨s, ra, ns, a, r, h1, _⟩ := L.pen
  exact ⟨h, tabs_ex1 h1 e L.tabs⟩
theorem LS.exN (L : LS K T p n H) (e : ExtN H H') (t : Tabs T H') : LS K T p n H' := by
  obtain ⟨s, ra, ns, a, r, h1, h2, h3⟩ := L.pen
  exact ⟨⟨s, ra, ns, a, r, e _ _ h1 (fun _ z => by cases z), h2.stp (Stp.exN e), h3⟩, t⟩
/-! ### houses in the law -/
/-- house_text(x) -/
theorem ev_htext {i : Nat} {S : Addr → Prop} (m : Mem S H) (hσ : σ[i]? = some (some (.ref q))) (a : HouseAt K A S H q h) (P : PartsOk h) : EvD K S (tCall (spHouseText K A) [] E0 (tCons (tVar i) tNil)) σ H (.str (houseT h)) := fun H1 e Q k =>
  ⟨.ref q, hσ, S, .ref q, rfl, m.ex e, .inl ⟨q, h, rfl, a.mono (.of m e), P, fun H2 e2 => k _ H2 e2 (.str _)⟩⟩
theorem ev_htextK {i : Nat} {S : Addr → Prop} (m : Mem S H) (hσ : σ[i]? = some (some (.ref q))) (a : HouseAt K A S H q h) (P : PartsOk h) : EvD K S (tKw (spHouseText K A) [] E0 (tVar i)) σ H (.str (houseT h)) := fun H1 e Q k =>
  ⟨.ref q, hσ, S, .ref q, rfl, m.ex e, .inl ⟨q, h, rfl, a.mono (.of m e), P, fun H2 e2 => k _ H2 e2 (.str _)⟩⟩
/-- a text that is not due -/
theorem eb_neT {ta tb : TE} {S : Addr → Prop} {x y : Str} (m : Mem S H) (h1 : EvD K S ta σ H (.str x)) (h2 : EvD K S tb σ H (.str y)) (ox : PyData.strOk x = true) (oy : PyData.strOk y = true) : EvB (tTest (tOp (rNeD K) ta tb)) σ H (!decide (x = y)) := by
  have := eb_T (ev_op m h1 h2 (r_neD (d1 := .str x) (d2 := .str y) ox oy (Nat.zero_le _) (Nat.zero_le _)))
  rwa [eqD_str] at this
/-- == and != of houses -/
theorem rq_houses {neg : Bool} {a b : Addr} {S : Addr → Prop} {Q : VK} (m : Mem S H) (ha : HouseAt K A S H a h) (hb : HouseAt K A S H b g) (P : PartsOk h) (R : PartsOk g) (k : ∀ H', Ex H H' → Q (.bl (if neg then !decide (houseT h = houseT g) else decide (houseT h = houseT g))) H') : rEqO A.cHouse (spEqH K A) neg (.ref a) (.ref b) H Q := by
  obtain ⟨na, dx, vs, h1, h2⟩ := id ha
  obtain ⟨nb, dy, us, g1, g2⟩ := id hb
  refine ⟨a, b, dx, dy, _, _, rfl, rfl, h1, g1, S, a, b, h, g, rfl, m, ha, hb, plain_h P, plain_h R, fun H' e => ⟨_, rfl, ?_⟩⟩
  rw [eq_text P R]
  exact k H' e
theorem eb_houses {neg : Bool} {i j : Nat} {a b : Addr} {S : Addr → Prop} (m : Mem S H) (hi : σ[i]? = some (some (.ref a))) (hj : σ[j]? = some (some (.ref b))) (ha : HouseAt K A S H a h) (hb : HouseAt K A S H b g) (P : PartsOk h) (R : PartsOk g) : EvD K S (tOp (rEqO A.cHouse (spEqH K A) neg) (tVar i) (tVar j)) σ H (.bl (if neg then !decide (houseT h = houseT g) else decide (houseT h = houseT g))) := fun H1 e Q k =>
  ⟨.ref a, hi, .ref b, hj, rq_houses (m.ex e) (ha.mono (.of m e)) (hb.mono (.of m e)) P R fun H2 e2 => k _ H2 e2 (.bl _)⟩
/-- read_house(text=due) != house -/
theorem eb_readK {neg : Bool} {i j : Nat} {b : Addr} {S : Addr → Prop} (m : Mem S H) (hi : σ[i]? = some (some (.str (houseT h)))) (hj : σ[j]? = some (some (.ref b))) (hb : HouseAt K A S H b g) (P : PartsOk h) (F : Fits h) (R : PartsOk g) : EvD K S (tOp (rEqO A.cHouse (spEqH K A) neg) (tKw (spRHouse K A) [] E0 (tVar i)) (tVar j)) σ H (.bl (if neg then !decide (houseT h = houseT g) else decide (houseT h = houseT g))) := fun H1 e Q k =>
  ⟨_, hi, S, h, rfl, m.ex e, P, F, fun x H2 e2 hx hA => ⟨.ref b, hj, rq_houses ((m.ex e).ex e2) hA (hb.mono (.of m (e.trans e2))) P R fun H3 e3 => k _ H3 (e2.trans e3) (.bl _)⟩⟩
end
end Nv
set_option Elab.async false
set_option linter.all false
set_option maxRecDepth 100000
set_option maxHeartbeats 4000000
/-! The law's promise. -/
namespace Nv
open PySem PySem.Spec PyProof.Rows L2 StX NvZ LamX
section
variable {K : PySem.W.Frag} {A : Ads} {T : List (Addr × Str)} {p q : Addr} {n m : Nat} {σ : L2.St} {H H' H2 : Hp} {h g : Hs} {coD : D}
theorem ts_loop {i : Nat} {c : Int} {cnt : Nat} {tb r : TS} {D0 : Ends} (hc : c.toNat = cnt) (c0 : 0 ≤ c) (c1 : c ≤ 1000) (Pv : Nat → L2.St → Hp → Prop) (h0 : Pv 0 σ H)
    (hs : ∀ j σ' H', j < cnt → Pv j σ' H' → ∀ (E : Ends) (x : V), E.nx = Pv (j + 1) → tb E (σ'.set i (some x)) H') (hd : ∀ σ' H', Pv cnt σ' H' → r D0 σ' H') : tSeq (tFor (iRng1 (tCons (tC (.int c)) tNil)) (gName i) tb) r D0 σ H := by
  refine ⟨c, rfl, by omega, by omega, ?_⟩
  rw [hc]
  refine ⟨fun j m σ' H' => m = cnt - j ∧ j ≤ cnt ∧ Pv j σ' H', ⟨cnt, rfl, Nat.zero_le _, h0⟩, ?_⟩
  rintro j m σ' H' ⟨rfl, hj, hp⟩
  by_cases hlt : j < cnt
  · refine .inr ⟨hlt, Pv (j + 1), fun σ2 H2 h => ⟨cnt - (j + 1), by omega, rfl, hlt, h⟩, fun x H'' y => ?_⟩
    obtain ⟨rfl, rfl⟩ : H'' = H' ∧ x = .int (0 + j) := y
    exact hs j σ' H'' hlt hp _ _ rfl
  · have e : j = cnt := by omega
    subst e
    exact .inl ⟨Nat.le_refl _, hd σ' H' hp⟩
/-- what the law keeps of the turn before -/
def Bef (K : PySem.W.Frag) (A : Ads) (p : Addr) (H : Hp) (bv : Option V) : Prop := bv = some .non ∨ ∃ b hb, bv = some (.ref b) ∧ HouseAt K A (SP p) H b hb ∧ PartsOk hb
theorem Bef.stp {bv : Option V} (e : Stp p H H') (b : Bef K A p H bv) : Bef K A p H' bv := b.imp id fun ⟨b, hb, h1, h2, h3⟩ => ⟨b, hb, h1, h2.stp e, h3⟩
abbrev tHeardIf (K : PySem.W.Frag) (A : Ads) (T : List (Addr × Str)) : TS := tIfS (tTest (tOp (rNeD K) (tLam T (TTh K A) fun E => (tCall (spHouseText K A) [] E (tCons (tVar 9) tNil))) (tTup (tCons (tC (.str "house")) (tCons (tC (.str "house")) tNil))))) (tRet (tC (.bl false))) tNext
theorem heard_if {D0 : Ends} {v : V} {e : D} (L : LS K T p n H) (hσ : σ[9]? = some (some v)) (r : Rp K (SP p) H v e) (hb : e.base = true) (k : ∀ H', LS K T p n H' → Stp p H H' → D0.nx σ H') : tHeardIf K A T D0 σ H := by
  refine ⟨L.tabs, fun H1 e1 t1 => ?_⟩
  have L1 := L.exN e1 t1
  have s1 : Stp p H H1 := Stp.exN e1
  refine ⟨SP p, L1.mem, fun H2 e2 Q E kk => ?_, fun v2 H2 e2 r2 => ?_⟩
  · exact ⟨v, hσ, SP p, v, rfl, L1.mem.ex e2, .inr ⟨e, r.stp (s1.trans (Stp.ex e2)), hb, kk⟩⟩
  · have L2' := L1.ex e2
    refine ev_tup (K := K) (S := SP p) (ds := [.str "house", .str "house"]) L2'.mem (ea_cons L2'.mem ev_str (ea_cons L2'.mem ev_str ea_nil)) (by show 2 ≤ _; decide) H2 (Evl.Ex.refl _) _ fun y H3 e3 r3 => ?_
    have m3 := L2'.mem.ex e3
    refine r_neD (K := K) (S := SP p) (H := H3) (d1 := dHH) (d2 := dHH) (by decide +kernel) (by decide +kernel) (by decide) (by decide) H3 (Evl.Ex.refl _) v2 y (r2.mono (.of L2'.mem e3)) r3 _ fun w H4 e4 r4 => ?_
    have he : eqD dHH dHH = true := eq_self _ (by decide +kernel)
    rw [he] at r4
    cases r4
    refine ⟨false, rfl, ?_⟩
    show (if false = true then (tRet (tC (.bl false))) D0 σ H4 else tNext D0 σ H4)
    rw [if_neg Bool.false_ne_true]
    exact k H4 (L2'.ex (e3.trans e4)) (s1.trans (Stp.ex ((e2.trans e3).trans e4)))
abbrev tTurn (K : PySem.W.Frag) (A : Ads) (T : List (Addr × Str)) : TS := (tSeq (tAsg (tCall (spAnyP K) [] E0 (tCons (tVar 1) tNil)) (gName 4))
  (tSeq (tAsg (tCall (spWhole K A) [] E0 (tCons (tVar 4) tNil)) (gName 5))
  (tSeq (tAsg (tM1 (rJoin K) (tC (.str "\n")) (tLc (iSeq K (tCall (spHLines K) [] E0 (tCons (tVar 4) tNil))) (gName 10) tYes (tM1 (rJoin K) (tC (.str " ")) (tVar 10)) [10])) (gName 6))
  (tSeq (tIfS (tOr (tTest (tOp (rNeD K) (tCall (spHouseText K A) [] E0 (tCons (tVar 5) tNil)) (tVar 6))) (tTest (tOp (rNeD K) (tKw (spHouseText K A) [] E0 (tVar 5)) (tVar 6)))) (tRet (tC (.bl false))) tNext)
  (tSeq (tAsg (tCall (spRHouse K A) [] E0 (tCons (tVar 6) tNil)) (gName 7))
  (tSeq (tIfS (tOr (tTest (tOp (rEqO A.cHouse (spEqH K A) true) (tVar 7) (tVar 5))) (tOr (tTest (tOp (rEqO A.cHouse (spEqH K A) true) (tKw (spRHouse K A) [] E0 (tVar 6)) (tVar 5))) (tTest (tOp (rNeD K) (tCall (spHouseText K A) [] E0 (tCons (tVar 7) tNil)) (tVar 6))))) (tRet (tC (.bl false))) tNext)
  (tSeq (tAsg (tLst (tCons (tFld K (tVar 7) "cells") (tCons (tFld K (tVar 7) "kinds") (tCons (tFld K (tVar 7) "registers") (tCons (tFld K (tVar 7) "live") (tCons (tFld K (tVar 7) "rooms") (tCons (tFld K (tVar 7) "collector") (tCons (tFld K (tVar 7) "pace") (tCons (tFld K (tVar 7) "need") (tCons (tFld K (tVar 7) "slide") (tCons (tFld K (tVar 7) "asked") tNil))))))))))) (gName 8))
  (tSeq (tIfS (tTest (tOp rNe (tCB (rReprD K) (tCons (tVar 8) tNil)) (tCB (rReprD K) (tCons (tLc (iSeq K (tTup (tCons (tC (.str "cells")) (tCons (tC (.str "kinds")) (tCons (tC (.str "registers")) (tCons (tC (.str "live")) (tCons (tC (.str "rooms")) (tCons (tC (.str "collector")) (tCons (tC (.str "pace")) (tCons (tC (.str "need")) (tCons (tC (.str "slide")) (tCons (tC (.str "asked")) tNil)))))))))))) (gName 11) tYes (tDGet (tVar 4) (tVar 11)) [11]) tNil)))) (tRet (tC (.bl false))) tNext)
  (tSeq (tIfS (tAnd (tTest (tOp rNotN (tVar 2) (tC .non))) (tTest (tOp (rNeD K) (tOp (rEqO A.cHouse (spEqH K A) false) (tVar 2) (tVar 5)) (tOp (rEqD K) (tCall (spHouseText K A) [] E0 (tCons (tVar 2) tNil)) (tVar 6))))) (tRet (tC (.bl false))) tNext)
  (tSeq (tAsg (tVar 5) (gName 2))
  (tSeq (tAsg (tCall (spPick K) [] E0 (tCons (tVar 1) (tCons (tLst (tCons (tC .non) (tCons (tC (.int 5)) (tCons (tVar 6) (tCons (tVar 4) (tCons (tTup (tCons (tVar 5) tNil)) tNil)))))) tNil))) (gName 9))
  (tHeardIf K A T))))))))))))
theorem no_ne {x : Str} : (!decide (x = x)) = false := by rw [decide_eq_true rfl]; rfl
theorem law_turn (X : Hx A K) {s0 bv s3 s4 s5 s6 s7 s8 s9 s10 s11 : Option V} {D0 : Ends} (L : LS K T p n H) (hn : n ≤ 50000) (hB : Bef K A p H bv)
    (k : ∀ bv' a4 a5 a6 a7 a8 a9 a10 a11 H', LS K T p (n + 501) H' → Bef K A p H' bv' → D0.nx [s0, some (.ref p), bv', s3, a4, a5, a6, a7, a8, a9, a10, a11] H') : tTurn K A T D0 [s0, some (.ref p), bv, s3, s4, s5, s6, s7, s8, s9, s10, s11] H := by
  refine ts_setk ⟨_, rfl, SP p, p, n, rfl, L.mem, L.pen, hn, fun h d H1 P F x1 hd m1 p1 nSd pl1 => ?_⟩
  have L1 : LS K T p (n + 500) H1 := L.ex1 x1 p1
  have t1 : Stp p H H1 := Stp.ex1 x1
  refine ts_setk ⟨_, rfl, SP p, d, h, rfl, m1, pl1, P, F, fun q H2 e2 hq hA2 => ?_⟩
  have L2' := L1.ex e2
  have m2 := L2'.mem
  have pl2 := pl1.ex m1 e2
  have ok := houseT_ok P
  -- due
  show tSeq _ _ D0 [s0, some (.ref p), bv, s3, some (.ref d), some (.ref q), s6, s7, s8, s9, s10, s11] H2
  have hlines : EvD K (SP p) (tCall (spHLines K) [] E0 (tCons (tVar 4) tNil)) [s0, some (.ref p), bv, s3, some (.ref d), some (.ref q), s6, s7, s8, s9, s10, s11] H2 (linesD (houseL h)) := fun G e Q kk => ⟨_, rfl, SP p, d, h, rfl, m2.ex e, pl2.ex m2 e, P, kk⟩
  have hl := ev_map (i := 10) (te := tM1 (rJoin K) (tC (.str " ")) (tVar 10)) (f := fun d => .str (Txt.join " " (unW d))) m2 (ei_seq m2 hlines rfl) (by show ((houseL h).map lD).length ≤ _; rw [List.length_map]; have := lines_len P; omega) fun S' H' m' up ex x e he rx => by
    have he' : e ∈ (houseL h).map lD := he
    obtain ⟨ws, hws, rfl⟩ := List.mem_map.mp he'
    refine ⟨rfl, (ev_join (ys := ws) m' ev_str (ev_var (i := 10) m' rfl rx) ?_).is ?_⟩
    · have h1 := row_size (rows_ok P ws hws)
      have e : (" " : Str).length = 1 := by decide +kernel
      rw [e]; omega
    · show _ = D.str (Txt.join " " (unW (.lst (ws.map D.str))))
      rw [unW_eq]
  have hk : (items (linesD (houseL h))).map (fun d => D.str (Txt.join " " (unW d))) = ((houseL h).map (Txt.join " ")).map D.str := by
    show ((houseL h).map lD).map _ = _
    rw [List.map_map, List.map_map]
    refine List.map_congr_left fun ws _ => ?_
    show D.str (Txt.join " " (unW (.lst (ws.map D.str)))) = D.str (Txt.join " " ws)
    rw [unW_eq]
  rw [hk] at hl
  refine ts_set (ev_join (a := "\n") m2 ev_str hl (by
    have h1 := text_size P
    have e : ("\n" : Str).length = 1 := by decide +kernel
    rw [e]; omega)) fun v3 H3 e3 r3 => ?_
  cases r3
  show tSeq _ _ D0 [s0, some (.ref p), bv, s3, some (.ref d), some (.ref q), some (.str (houseT h)), s7, s8, s9, s10, s11] H3
  have L3 := L2'.ex e3
  have m3 := L3.mem
  have hA3 := hA2.stp (Stp.ex (p := p) e3)
  have v6 : ∀ {G : Hp} {σ2 : L2.St}, Mem (SP p) G → σ2[6]? = some (some (.str (houseT h))) → EvD K (SP p) (tVar 6) σ2 G (.str (houseT h)) := fun mg hs => ev_var mg hs (.str _)
  refine ts_ifseq (b := false) ((eb_or (eb_neT m3 (ev_htext m3 rfl hA3 P) (v6 m3 rfl) ok ok) fun _ => eb_neT m3 (ev_htextK m3 rfl hA3 P) (v6 m3 rfl) ok ok).is (by rw [no_ne, Bool.or_false])) fun H4 e4 => ?_
  rw [if_neg Bool.false_ne_true]
  have L4 := L3.ex e4
  have m4 := L4.mem
  have hA4 := hA3.stp (Stp.ex (p := p) e4)
  -- again
  refine tn_seq (ts_setk ⟨_, rfl, SP p, h, rfl, m4, P, F, fun x H5 e5 hx hX5 => ?_⟩)
  show tSeq _ _ D0 [s0, some (.ref p), bv, s3, some (.ref d), some (.ref q), some (.str (houseT h)), some (.ref x), s8, s9, s10, s11] H5
  have L5 := L4.ex e5
  have m5 := L5.mem
  have hA5 := hA4.stp (Stp.ex (p := p) e5)
  refine ts_ifseq (b := false) ((eb_or (eb_T (eb_houses (neg := true) (i := 7) (j := 5) m5 rfl rfl hX5 hA5 P P)) fun _ => eb_or (eb_T (eb_readK (neg := true) (i := 6) (j := 5) m5 rfl rfl hA5 P F P)) fun _ => eb_neT m5 (ev_htext (i := 7) m5 rfl hX5 P) (v6 m5 rfl) ok ok).is (by
    rw [no_ne]; simp)) fun H6 e6 => ?_
  rw [if_neg Bool.false_ne_true]
  have L6 := L5.ex e6
  have m6 := L6.mem
  have hX6 := hX5.stp (Stp.ex (p := p) e6)
  -- told
  have fl : ∀ {f : Str} {e : D}, f ∈ hF → (hF.zip (hsD h)).lookup f = some e → EvD K (SP p) (tFld K (tVar 7) f) [s0, some (.ref p), bv, s3, some (.ref d), some (.ref q), some (.str (houseT h)), some (.ref x), s8, s9, s10, s11] H6 e := fun hm hf => hX6.2.fld X m6 rfl hm hf
  refine tn_seq (ts_set (ev_lst (ds := rowL h) m6 (ea_cons m6 (fl (by decide) rfl) (ea_cons m6 (fl (by decide) rfl) (ea_cons m6 (fl (by decide) rfl) (ea_cons m6 (fl (by decide) rfl) (ea_cons m6 (fl (by decide) rfl) (ea_cons m6 (fl (by decide) rfl) (ea_cons m6 (fl (by decide) rfl) (ea_cons m6 (fl (by decide) rfl) (ea_cons m6 (fl (by decide) rfl) (ea_cons m6 (fl (by decide) rfl) ea_nil)))))))))) (by show 10 ≤ _; decide)) fun v7 H7 e7 r7 => ?_)
  show tSeq _ _ D0 [s0, some (.ref p), bv, s3, some (.ref d), some (.ref q), some (.str (houseT h)), some (.ref x), some v7, s9, s10, s11] H7
  have L7 := L6.ex e7
  have m7 := L7.mem
  have pl7 : PlainAt K (SP p) H7 d h (collD h.coll) := pl2.stp (Stp.ex ((((e3.trans e4).trans e5).trans e6).trans e7)) nSd
  have hA7 := hA5.stp (Stp.ex (p := p) (e6.trans e7))
  -- repr
  have names : EvD K (SP p) (tTup (tCons (tC (.str "cells")) (tCons (tC (.str "kinds")) (tCons (tC (.str "registers")) (tCons (tC (.str "live")) (tCons (tC (.str "rooms")) (tCons (tC (.str "collector")) (tCons (tC (.str "pace")) (tCons (tC (.str "need")) (tCons (tC (.str "slide")) (tCons (tC (.str "asked")) tNil))))))))))) [s0, some (.ref p), bv, s3, some (.ref d), some (.ref q), some (.str (houseT h)), some (.ref x), some v7, s9, s10, s11] H7 (strsT ["cells", "kinds", "registers", "live", "rooms", "collector", "pace", "need", "slide", "asked"]) :=
    ev_tup m7 (ea_cons m7 ev_str (ea_cons m7 ev_str (ea_cons m7 ev_str (ea_cons m7 ev_str (ea_cons m7 ev_str (ea_cons m7 ev_str (ea_cons m7 ev_str (ea_cons m7 ev_str (ea_cons m7 ev_str (ea_cons m7 ev_str ea_nil)))))))))) (by show 10 ≤ _; decide)
  have sub : ∀ f ∈ (["cells", "kinds", "registers", "live", "rooms", "collector", "pace", "need", "slide", "asked"] : List Str), f ∈ pF := by decide +kernel
  have hlc := ev_map (i := 11) (te := tDGet (tVar 4) (tVar 11)) (f := fun e => plD h (collD h.coll) (unS e)) m7 (ei_seq m7 names rfl) (by show 10 ≤ _; decide) fun S' H' m' up ex y e he ry => by
    have he' : e ∈ (["cells", "kinds", "registers", "live", "rooms", "collector", "pace", "need", "slide", "asked"] : List Str).map D.str := he
    obtain ⟨f, hf, rfl⟩ := List.mem_map.mp he'
    exact ⟨rfl, ev_pl m' (pl7.up up fun o h => ex _ _ h) rfl (ev_var (i := 11) m' rfl ry) (sub f hf)⟩
  have hl2 : EvD K (SP p) _ [s0, some (.ref p), bv, s3, some (.ref d), some (.ref q), some (.str (houseT h)), some (.ref x), some v7, s9, s10, s11] H7 (.lst (rowL h)) := hlc
  refine ts_ifseq (b := false) ((eb_T (ev_op m7 (ev_cb (ev_a1 (ev_var (i := 8) m7 rfl r7)) (ra_repr P)) (ev_cb (ev_a1 hl2) (ra_repr P)) r_neS)).is no_ne) fun H8 e8 => ?_
  rw [if_neg Bool.false_ne_true]
  have L8 := L7.ex e8
  have m8 := L8.mem
  have hA8 := hA7.stp (Stp.ex (p := p) e8)
  have E18 : Ex H1 H8 := ((((((e2.trans e3).trans e4).trans e5).trans e6).trans e7).trans e8)
  have t8 : Stp p H H8 := t1.trans (Stp.ex E18)
  have hB8 := hB.stp t8
  have bt : EvB (tAnd (tTest (tOp rNotN (tVar 2) (tC .non))) (tTest (tOp (rNeD K) (tOp (rEqO A.cHouse (spEqH K A) false) (tVar 2) (tVar 5)) (tOp (rEqD K) (tCall (spHouseText K A) [] E0 (tCons (tVar 2) tNil)) (tVar 6))))) [s0, some (.ref p), bv, s3, some (.ref d), some (.ref q), some (.str (houseT h)), some (.ref x), some v7, s9, s10, s11] H8 false := by
    rcases hB8 with rfl | ⟨b, hb, rfl, hBt, hP⟩
    · exact (eb_and (a := false) (eb_T (ev_op m8 (ev_var (i := 2) m8 rfl (.non (K := K) (S := SP p))) ev_non r_notN)) fun z => by cases z).is (b := false && false) rfl
    · have first := eb_T (ev_op m8 (ev_var (i := 2) (σ := [s0, some (.ref p), some (.ref b), s3, some (.ref d), some (.ref q), some (.str (houseT h)), some (.ref x), some v7, s9, s10, s11]) m8 rfl hBt.rp) ev_non r_notN)
      have e1 := eb_houses (neg := false) (i := 2) (j := 5) (σ := [s0, some (.ref p), some (.ref b), s3, some (.ref d), some (.ref q), some (.str (houseT h)), some (.ref x), some v7, s9, s10, s11]) m8 rfl rfl hBt hA8 hP P
      have e2 := ev_op m8 (ev_htext (i := 2) (σ := [s0, some (.ref p), some (.ref b), s3, some (.ref d), some (.ref q), some (.str (houseT h)), some (.ref x), some v7, s9, s10, s11]) m8 rfl hBt hP) (v6 m8 rfl) (r_eqD (d1 := .str (houseT hb)) (d2 := .str (houseT h)) (houseT_ok hP) ok (Nat.zero_le _) (Nat.zero_le _))
      rw [eqD_str] at e2
      refine (eb_and first fun _ => eb_T (ev_op m8 e1 e2 (r_neD rfl rfl (Nat.zero_le _) (Nat.zero_le _)))).is ?_
      have es : eqD (.bl (if false = true then !decide (houseT hb = houseT h) else decide (houseT hb = houseT h))) (.bl (decide (houseT hb = houseT h))) = true := eq_self (.bl _) rfl
      rw [es]; rfl
  refine tn_seq (ts_ifseq bt fun H9 e9 => ?_)
  rw [if_neg Bool.false_ne_true]
  have L9 := L8.ex e9
  have m9 := L9.mem
  have hA9 := hA8.stp (Stp.ex (p := p) e9)
  have pl9 : PlainAt K (SP p) H9 d h (collD h.coll) := pl7.stp (Stp.ex (e8.trans e9)) nSd
  refine tn_seq (ts_setk (tVar_intro rfl ?_))
  show tSeq _ _ D0 [s0, some (.ref p), some (.ref q), s3, some (.ref d), some (.ref q), some (.str (houseT h)), some (.ref x), some v7, s9, s10, s11] H9
  have dp : Rp K (SP p) H9 (.ref d) .dic := by
    obtain ⟨kv, pa, ak, co, hh, _⟩ := pl9
    exact .dic hh nSd
  have hlist : EvD K (SP p) (tLst (tCons (tC .non) (tCons (tC (.int 5)) (tCons (tVar 6) (tCons (tVar 4) (tCons (tTup (tCons (tVar 5) tNil)) tNil)))))) [s0, some (.ref p), some (.ref q), s3, some (.ref d), some (.ref q), some (.str (houseT h)), some (.ref x), some v7, s9, s10, s11] H9 (.lst [.non, .int 5, .str (houseT h), .dic, .tup [.ins A.cHouse]]) :=
    ev_lst m9 (ea_cons m9 ev_non (ea_cons m9 ev_int (ea_cons m9 (v6 m9 rfl) (ea_cons m9 (ev_var (i := 4) m9 rfl dp) (ea_cons m9 (ev_tup m9 (ev_a1 (ev_var (i := 5) m9 rfl hA9.rp)) (by show 1 ≤ _; decide)) ea_nil))))) (by show 5 ≤ _; decide)
  refine ts_setk (ax_pick (i := 1) m9 rfl L9.pen (by omega) hlist (by show 1 ≤ 5; decide) (by show 5 ≤ 1000; decide) fun e v H10 he a10 r10 => ?_)
  have L10 : LS K T p (n + 501) H10 := L9.ex1 a10.ex a10.pen
  have hb : e.base = true := by
    have : e = .non ∨ e = .int 5 ∨ e = .str (houseT h) ∨ e = .dic ∨ e = .tup [.ins A.cHouse] := by simpa using he
    rcases this with rfl | rfl | rfl | rfl | rfl <;> rfl
  refine heard_if (σ := [s0, some (.ref p), some (.ref q), s3, some (.ref d), some (.ref q), some (.str (houseT h)), some (.ref x), some v7, some v, s10, s11]) L10 rfl r10 hb fun H11 L11 t11 => ?_
  exact k _ _ _ _ _ _ _ _ _ H11 L11 (.inr ⟨q, h, rfl, hA9.stp ((Stp.ex1 a10.ex).trans t11), P⟩)
abbrev nLaw : List Str := ["script", "pen", "before", "turn", "plain", "house", "due", "again", "told", "odd", "line", "part"]
def spLaw (K : PySem.W.Frag) (T : List (Addr × Str)) : Sp := fun vs H Q _ => ∃ (a : Addr) (ns : List Int), vs = [.ref a] ∧ SqL K H a (ns.map V.int) ∧ ns.length ≤ 1000 ∧ Tabs T H ∧ ∀ H', Q (.bl true) H'
theorem t_law_eq : t_law K A T (TTh K A) (spPen K) (spAnyP K) (spWhole K A) (spHLines K) (spHouseText K A) (spRHouse K A) (spPick K) (spEqH K A) = tSeq (tAsg (tCall (spPen K) [] E0 (tCons (tVar 0) tNil)) (gName 1)) (tSeq (tAsg (tC .non) (gName 2)) (tSeq (tFor (iRng1 (tCons (tC (.int 10)) tNil)) (gName 3) (tTurn K A T)) (tRet (tC (.bl true))))) := rfl
theorem pr_law (X : Hx A K) (vs : List V) (H : Hp) (Q : VK) (E : XK) (hh : spLaw K T vs H Q E) : t_law K A T (TTh K A) (spPen K) (spAnyP K) (spWhole K A) (spHLines K) (spHouseText K A) (spRHouse K A) (spPick K) (spEqH K A) { nx := fun _ H' => Q .non H', rt := Q } (start nLaw vs) H := by
  obtain ⟨a, ns, rfl, hs, hl, ht, q⟩ := hh
  rw [t_law_eq]
  refine ts_setk ⟨.ref a, rfl, a, ns, rfl, hs, hl, fun p H1 e1 hp m1 p1 => ?_⟩
  have L1 : LS K T p 0 H1 := ⟨p1, ht.ext e1⟩
  refine ts_setk (tC_intro ?_)
  refine ts_loop (cnt := 10) rfl (by decide) (by decide) (fun j σ' H' => LS K T p (501 * j) H' ∧ ∃ s0 bv s3 s4 s5 s6 s7 s8 s9 s10 s11, σ' = [s0, some (.ref p), bv, s3, s4, s5, s6, s7, s8, s9, s10, s11] ∧ Bef K A p H' bv) ⟨L1, _, _, _, _, _, _, _, _, _, _, _, rfl, .inl rfl⟩ ?_ ?_
  · rintro j σ' H' hj ⟨L2, s0, bv, s3, s4, s5, s6, s7, s8, s9, s10, s11, rfl, hB⟩ E' x hE
    refine law_turn X L2 (by omega) hB fun bv' a4 a5 a6 a7 a8 a9 a10 a11 H3 L3 hB3 => ?_
    rw [hE]
    exact ⟨L3.le (by omega), _, _, _, _, _, _, _, _, _, _, _, rfl, hB3⟩
  · rintro σ' H' _
    exact q H'
end
end Nv
set_option Elab.async false
set_option linter.all false
set_option maxRecDepth 100000
set_option maxHeartbeats 1000000
/-! An exception class of the package as the head leaves it: what is looked at, what follows. -/
namespace NvK
open PySem PySem.W PySem.Spec PyProof.Rows PySem.HandSPX
/-! ### the written parts of an __init__ -/
structure Ix where
  p0 : Pos
  p1 : Pos
  p2 : Pos
  p3 : Pos
  p4 : Pos
  pj : Pos
  v1 : Expr
  v2 : Expr
  vr : List Expr
  ps : List (Str × Pos × Pos × Pos × Pos)
def psOf : List Stmt → List (Str × Pos × Pos × Pos × Pos)
  | .Assign [.Attribute (.Name _ a) f b] (.Name _ c) d :: r => (f, a, b, c, d) :: psOf r
  | _ => []
def pz : Pos := ⟨0, 0, 0, 0⟩
def ix : List Stmt → Ix
  | .Expr (.Call (.Attribute (.Call (.Name _ p0) [] [] p1) _ p2) [.JoinedStr (v1 :: v2 :: vr) pj] [] p3) p4 :: r => ⟨p0, p1, p2, p3, p4, pj, v1, v2, vr, psOf r⟩
  | _ => ⟨pz, pz, pz, pz, pz, pz, .Name "x" pz, .Name "x" pz, [], []⟩
def Ix.body (i : Ix) : List Stmt := NvX.initBody i.p0 i.p1 i.p2 i.p3 i.p4 i.pj i.v1 i.v2 i.vr i.ps
def Ix.parts (i : Ix) : List Expr := i.v1 :: i.v2 :: i.vr
def partB : Expr → Bool
  | .Constant (.str x) _ _ => decide (x.length ≤ 1000)
  | .FormattedValue (.Name _ _) c none _ => decide (c = -1)
  | _ => false
theorem partB_ok {e : Expr} (h : partB e = true) : NvX.Part e := by
  unfold partB at h
  split at h
  · exact .con _ _ _ (of_decide_eq_true h)
  · rw [of_decide_eq_true h]
    exact .fmt _ _ _
  · cases h
def inB (fs : List Str) : Expr → Bool
  | .FormattedValue (.Name f _) _ _ _ => fs.contains f
  | _ => true
/-! ### the class -/
theorem clsB_ok {K : Frag} {C : Addr} (h : clsB K C = true) : ∃ nm q N bs bm sn sub ab col dd k0 k1 k2 k3 k5, K.lookup C = some (excClassObj nm q C N bs bm true sn sub ab col dd k0 k1 k2 k3 k5 "ValueError.__new__") ∧ refsVE bm = true := by
  unfold clsB at h
  split at h
  · rename_i t dd cd sl lk
    split at h
    · rename_i D bm k0 k1 k2 k3 n k5 em es
      obtain ⟨h1, h⟩ := Bool.and_eq_true_iff.mp h
      obtain ⟨h2, h⟩ := Bool.and_eq_true_iff.mp h
      obtain ⟨h3, h⟩ := Bool.and_eq_true_iff.mp h
      obtain ⟨h4, h⟩ := Bool.and_eq_true_iff.mp h
      obtain ⟨h5, h6⟩ := Bool.and_eq_true_iff.mp h
      have t1 := of_decide_eq_true h1
      have t2 := of_decide_eq_true h2
      have t3 := of_decide_eq_true h3
      subst t1 t2 t3
      obtain ⟨nm, bs, mro, ns, qn, hd, sn, sub, ab, col, del⟩ := cd
      replace em : mro = .ref D :: bm := em
      replace h4 : (!del) = true := h4
      replace h5 : hd = true := h5
      have h4' : del = false := by simpa using h4
      subst em h4' h5
      have hs : sl = #[k0, k1, k2, k3, some (.builtin "ValueError.__new__"), k5] := by
        cases sl with
        | mk l => exact congrArg Array.mk es
      subst hs
      exact ⟨nm, qn, ns, bs, bm, sn, sub, ab, col, dd, k0, k1, k2, k3, k5, lk, h6⟩
    · cases h
  · cases h
/-! ### its __init__ -/
theorem init_ok {K : Frag} {F : Str} {d : InD} (e : fnZ K (d.f K) = d.val) (h : initB K F d = true) :
    ∃ (oc : Value) (od : Option Addr) (osl : Array (Option Value)) (kV doc pm ct : Value) (an : Option Addr) (cda cc : Addr), K.lookup (d.f K) = some ⟨oc, od, .func (ksFn "__init__" (d.cls ++ ".__init__") (L2.defArgs d.st) (L2.defBody d.st) (L2.defScope d.st) .none kV doc pm an (.ref cda) ct cc), osl⟩ ∧ codeIn K (.ref cda) (d.cls ++ ".__init__") = true ∧
      (∃ (ccl : Value) (cdd : Option Addr) (vs : Array Value) (ccs : Array (Option Value)) (file : Str) (tf : Tok), K.lookup cda = some ⟨ccl, cdd, .fields vs, ccs⟩ ∧ vs[2]? = some (.str file tf) ∧ (F == file) = true) ∧
      ∃ (cl : Value) (cld : Option Addr) (csl : Array (Option Value)), K.lookup cc = some ⟨cl, cld, .cell (some (.ref (d.C K))), csl⟩ := by
  unfold fnZ at e
  unfold initB at h
  cases lk : K.lookup (d.f K) with
  | none => rw [lk] at h; cases h
  | some o =>
    obtain ⟨oc, od, dt, osl⟩ := o
    rw [lk] at h e
    cases dt with
    | func fd =>
      obtain ⟨n1, n2, n3, n4, n5, n6, n7, n8, n9, n10, n11, n12, n13, n14, n15⟩ := fd
      replace e : (some (n1, n2, n3, n4, n5, n6, n7.map (·.1), n8, n15) : FnZ) = (some ("__init__", d.cls ++ ".__init__", L2.defArgs d.st, .stmts (L2.defBody d.st), L2.defScope d.st, mainGlobals, ["__class__"], .none, builtinsNs) : FnZ) := e
      simp only [Option.some.injEq, Prod.mk.injEq] at e
      obtain ⟨a1, a2, a3, a4, a5, a6, a7, a8, a9⟩ := e
      obtain ⟨b1, b⟩ := Bool.and_eq_true_iff.mp h
      obtain ⟨b2, b3⟩ := Bool.and_eq_true_iff.mp b
      replace b1 : codeIn K n13 (d.cls ++ ".__init__") = true := b1
      replace b2 : fileB K F n13 = true := b2
      replace b3 : cellB K (d.C K) n7 = true := b3
      match n7, a7, b3 with
      | [(y, cc)], a7, b3 =>
        have ey : y = "__class__" := by simpa using a7
        subst ey a1 a2 a3 a4 a5 a6 a8 a9
        cases n13 with
        | ref cda =>
          refine ⟨oc, od, osl, n9, n10, n11, n14, n12, cda, cc, rfl, b1, ?_, ?_⟩
          · replace b2 : (match K.lookup cda with
              | some ⟨_, _, .fields vs, _⟩ => (match (vs[2]? : Option Value) with
                | some (.str x _) => F == x
                | _ => false)
              | _ => false) = true := b2
            split at b2
            · rename_i ccl cdd vs ccs lk2
              split at b2
              · rename_i x t h2
                exact ⟨ccl, cdd, vs, ccs, x, t, lk2, h2, b2⟩
              · cases b2
            · cases b2
          · replace b3 : (match K.lookup cc with
              | some ⟨_, _, .cell (some (.ref D)), _⟩ => decide (D = d.C K)
              | _ => false) = true := b3
            split at b3
            · rename_i cl cld D csl lk2
              have := of_decide_eq_true b3
              subst this
              exact ⟨cl, cld, csl, lk2⟩
            · cases b3
        | _ => cases b1
    | _ => cases h
/-! ### what is written of it -/
structure Wr (prog : Program) (d : InD) (fs : List Str) : Prop where
  body : L2.defBody d.st = (ix (L2.defBody d.st)).body
  args : ∃ pa prs, L2.defArgs d.st = { posonlyargs := [], args := { arg := "self", annotation := none, pos := pa } :: prs, vararg := none, kwonlyargs := [], kw_defaults := [], kwarg := none, defaults := [] } ∧ prs.map (·.arg) = fs
  names : (ix (L2.defBody d.st)).ps.map (·.1) = fs
  parts : (ix (L2.defBody d.st)).parts.all partB = true
  few : (ix (L2.defBody d.st)).parts.length ≤ 10
  from_ : (ix (L2.defBody d.st)).parts.all (inB fs) = true
  loc : ∀ f ∈ fs, (L2.defScope d.st).names.lookup f = some .local ∧ (f == ("__debug__" : Str)) = false ∧ f ≠ "self"
  nodup : fs.Nodup
  ne : fs ≠ []
  five : fs.length ≤ 5
  self : (L2.defScope d.st).names.lookup ("self" : Str) = some .local
  sup : (L2.defScope d.st).names.lookup ("super" : Str) = some .globalImplicit
  cell : (L2.defScope d.st).names.lookup ("__class__" : Str) = some .free
  noc : ∀ y ∈ (L2.defScope d.st).names, y.2 ≠ .cell
  kind : (L2.defScope d.st).kind = .function
  co : (L2.defScope d.st).isCoroutine = false
  gen : (L2.defScope d.st).isGenerator = false
  bind : ∀ (kV doc pm ct : Value) (an : Option Addr) (cda cc : Addr) (us : List Value), us.length = fs.length + 1 → bindArgs (ksFn "__init__" (d.cls ++ ".__init__") (L2.defArgs d.st) (L2.defBody d.st) (L2.defScope d.st) .none kV doc pm an (.ref cda) ct cc) ⟨us, []⟩ = pure (((("self" : Str) :: fs)).zip us)
  call : ∃ pl : Env → Sem Bool, ∀ env : Env, eval (.Call (.Attribute (.Call (.Name "super" (ix (L2.defBody d.st)).p0) [] [] (ix (L2.defBody d.st)).p1) "__init__" (ix (L2.defBody d.st)).p2) [.JoinedStr (ix (L2.defBody d.st)).parts (ix (L2.defBody d.st)).pj] [] (ix (L2.defBody d.st)).p3) env = (do
      let ov ← attributeBase (.Call (.Name "super" (ix (L2.defBody d.st)).p0) [] [] (ix (L2.defBody d.st)).p1) "__init__" env (eval (.Call (.Name "super" (ix (L2.defBody d.st)).p0) [] [] (ix (L2.defBody d.st)).p1) env)
      standAt (ix (L2.defBody d.st)).p2.atName
      let (f, first) ← holding [ov] (getMethod ov "__init__" (pl env))
      callWith (ix (L2.defBody d.st)).p3 f first (backTo (ix (L2.defBody d.st)).p3 (starEach [.JoinedStr (ix (L2.defBody d.st)).parts (ix (L2.defBody d.st)).pj] env)) [])
  top : (prog.main.scope.names.lookup ("super" : Str)).isSome = false
/-! ### all of it -/
theorem all_at {l : List Bool} (h : l.all id = true) (i : Nat) {b : Bool} (e : l[i]? = some b := by rfl) : b = true := List.all_eq_true.mp h b (List.mem_of_getElem? e)
theorem txt_of {prog : Program} {K : Frag} {mg : Str → Option Value} {d : InD} {fs : List Str} (W : Wr prog d fs) (h : (excL K prog.main.file d fs).all id = true) (e : fnZ K (d.f K) = d.val) (g : mg d.cls = some (.ref (d.C K))) : NvX.Txt prog K mg d.cls (d.C K) (d.f K) fs := by
  have X := L2.xfB_ok (all_at h 2)
  obtain ⟨pa, prs, w1, w2⟩ := W.args
  obtain ⟨oc, od, osl, kV, doc, pm, ct, an, cda, cc, lk, c1, c2, c3⟩ := init_ok e (all_at h 13)
  refine ⟨g, clsB_ok (all_at h 0), He.eqO_ok (all_at h 1), X.ga, X.gg, fun f hf => He.eqO_ok (List.all_eq_true.mp (all_at h 3) f hf), He.eqO_ok (all_at h 4), of_decide_eq_true (all_at h 5), all_at h 6, X.exC, of_decide_eq_true (all_at h 7), of_decide_eq_true (all_at h 8), X.hdC,
    He.eqO_ok (all_at h 9), He.eqO_ok (all_at h 10), He.eqO_ok (all_at h 11), of_decide_eq_true (all_at h 12), W.top, ?_⟩
  have wb := W.body
  have hb := W.bind kV doc pm ct an cda cc
  rw [wb] at lk hb
  exact ⟨oc, od, osl, L2.defArgs d.st, L2.defScope d.st, kV, doc, pm, ct, an, cda, cc, _, _, _, _, _, _, _, _, _, _, pa, prs, lk, c1, c2, c3, w1, w2, W.names, fun x hx => partB_ok (List.all_eq_true.mp W.parts x hx), W.few, fun f p q hm => by
    have := List.all_eq_true.mp W.from_ _ hm
    exact List.contains_iff_mem.mp this, W.loc, W.nodup, W.ne, W.five, W.self, W.sup, W.cell, W.noc, W.kind, W.co, W.gen, hb, W.call⟩
theorem excC_of {K : Frag} {F : Str} {d : InD} {fs : List Str} (h : (excL K F d fs).all id = true) : L2.ExcC K (d.C K) := by
  have X := L2.xfB_ok (all_at h 2)
  exact ⟨X.ga, X.gg, X.exC, X.hdC, He.eqO_ok (all_at h 14), He.eqO_ok (all_at h 15), of_decide_eq_true (all_at h 16), of_decide_eq_true (all_at h 17)⟩
theorem xfC_of {K : Frag} {F : Str} {d : InD} {fs : List Str} (h : (excL K F d fs).all id = true) : L2.XfC K (d.C K) := L2.xfB_ok (all_at h 2)
end NvK
set_option Elab.async false
set_option linter.all false
set_option maxRecDepth 100000
set_option maxHeartbeats 1000000
/-! The three exception classes as they are written. -/
namespace NvK
open PySem PySem.W PySem.Spec PyProof.Rows PySem.HandSPX
theorem wr_text : Wr PR inText ["line", "word"] where
  body := by kernel_rfl
  args := ⟨_, _, rfl, rfl⟩
  names := by kernel_rfl
  parts := by kernel_rfl
  few := by decide +kernel
  from_ := by kernel_rfl
  loc := by decide +kernel
  nodup := by decide +kernel
  ne := by decide
  five := by decide
  self := by kernel_rfl
  sup := by kernel_rfl
  cell := by kernel_rfl
  noc := by decide +kernel
  kind := by kernel_rfl
  co := by kernel_rfl
  gen := by kernel_rfl
  bind := fun kV doc pm ct an cda cc us hl => match us, hl with | [_, _, _], _ => rfl
  call := ⟨fun env => L2.plainOf (.Call (.Name "super" (ix (L2.defBody inText.st)).p0) [] [] (ix (L2.defBody inText.st)).p1) env, fun env => rfl⟩
  top := by kernel_rfl
theorem wr_house : Wr PR inHouse ["part"] where
  body := by kernel_rfl
  args := ⟨_, _, rfl, rfl⟩
  names := by kernel_rfl
  parts := by kernel_rfl
  few := by decide +kernel
  from_ := by kernel_rfl
  loc := by decide +kernel
  nodup := by decide +kernel
  ne := by decide
  five := by decide
  self := by kernel_rfl
  sup := by kernel_rfl
  cell := by kernel_rfl
  noc := by decide +kernel
  kind := by kernel_rfl
  co := by kernel_rfl
  gen := by kernel_rfl
  bind := fun kV doc pm ct an cda cc us hl => match us, hl with | [_, _], _ => rfl
  call := ⟨fun env => L2.plainOf (.Call (.Name "super" (ix (L2.defBody inHouse.st)).p0) [] [] (ix (L2.defBody inHouse.st)).p1) env, fun env => rfl⟩
  top := by kernel_rfl
theorem wr_misfit : Wr PR inMisfit ["part"] where
  body := by kernel_rfl
  args := ⟨_, _, rfl, rfl⟩
  names := by kernel_rfl
  parts := by kernel_rfl
  few := by decide +kernel
  from_ := by kernel_rfl
  loc := by decide +kernel
  nodup := by decide +kernel
  ne := by decide
  five := by decide
  self := by kernel_rfl
  sup := by kernel_rfl
  cell := by kernel_rfl
  noc := by decide +kernel
  kind := by kernel_rfl
  co := by kernel_rfl
  gen := by kernel_rfl
  bind := fun kV doc pm ct an cda cc us hl => match us, hl with | [_, _], _ => rfl
  call := ⟨fun env => L2.plainOf (.Call (.Name "super" (ix (L2.defBody inMisfit.st)).p0) [] [] (ix (L2.defBody inMisfit.st)).p1) env, fun env => rfl⟩
  top := by kernel_rfl
end NvK
set_option Elab.async false
set_option linter.all false
set_option maxRecDepth 100000
set_option maxHeartbeats 1000000
/-! The facts as the walks and the promises want them. -/
namespace NvK
open PySem PySem.W PySem.Spec PyProof.Rows PySem.HandSPX
section
variable {w : World} {K : Frag} {mg : Str → Option Value} {h : Heap}
theorem fact_of (S : SaysN w h K) {f : He.Fa} (hf : f ∈ faL) : f.ok K = true := S.x.t.d.facts hf
theorem glo_of (X : K.In h) (G : h.Ns mainGlobals mg) (S : SaysN w h K) {x : Str} (hx : x ∈ gloL := by decide +kernel) : mg x = some (.ref (He.ga K x)) := He.glo_ok X G (fact_of S (by
  unfold faL
  exact List.mem_append_left _ (List.mem_map_of_mem hx)))
theorem free_of (X : K.In h) (G : h.Ns mainGlobals mg) (S : SaysN w h K) {x : Str} (hx : x ∈ freeL := by decide +kernel) : mg x = none := He.free_ok X G (fact_of S (by
  unfold faL
  exact List.mem_append_right _ (List.mem_append_left _ (List.mem_map_of_mem hx))))
theorem meth_of (S : SaysN w h K) {c m : Str} (hx : (c, m) ∈ methL := by decide +kernel) : L2.Meth K (He.ga K c) m (He.ma K (He.ga K c) m) := He.meth_ok (fact_of S (by
  unfold faL
  exact List.mem_append_right _ (List.mem_append_right _ (List.mem_append_left _ (List.mem_map_of_mem (f := fun p : Str × Str => He.Fa.meth p.1 p.2) hx)))))
theorem int_of (X : K.In h) (G : h.Ns mainGlobals mg) (S : SaysN w h K) {x : Str} {i : Int} (hx : (x, i) ∈ intL := by decide +kernel) : Nv.GloI mg x i := He.int_ok X G (fact_of S (by
  unfold faL
  exact List.mem_append_right _ (List.mem_append_right _ (List.mem_append_right _ (List.mem_append_left _ (List.mem_map_of_mem (f := fun p : Str × Int => He.Fa.int p.1 p.2) hx))))))
theorem last_of (S : SaysN w h K) {f : He.Fa} (hx : f ∈ lastL := by simp [lastL]) : f.ok K = true := fact_of S (by
  unfold faL
  exact List.mem_append_right _ (List.mem_append_right _ (List.mem_append_right _ (List.mem_append_right _ hx))))
theorem ex_of (S : SaysN w h K) : (excL K PR.main.file inText ["line", "word"]).all id = true ∧ (excL K PR.main.file inHouse ["part"]).all id = true ∧ (excL K PR.main.file inMisfit ["part"]).all id = true ∧ (kitL K).all id = true ∧ ownB K (He.ga K "House") (He.ma K (He.ga K "House") "__eq__") = true ∧ insB K (He.ga K "House") = true := by
  have m := S.x.more
  unfold exN at m
  obtain ⟨m1, m⟩ := Bool.and_eq_true_iff.mp m
  obtain ⟨m2, m⟩ := Bool.and_eq_true_iff.mp m
  obtain ⟨m3, m⟩ := Bool.and_eq_true_iff.mp m
  obtain ⟨m4, m⟩ := Bool.and_eq_true_iff.mp m
  obtain ⟨m5, m6⟩ := Bool.and_eq_true_iff.mp m
  exact ⟨m1, m2, m3, m4, m5, m6⟩
theorem fnz_of (S : SaysN w h K) : fnZ K (inText.f K) = inText.val ∧ fnZ K (inHouse.f K) = inHouse.val ∧ fnZ K (inMisfit.f K) = inMisfit.val := by
  have z := S.z
  have z' : [fnZ K (inText.f K), fnZ K (inHouse.f K), fnZ K (inMisfit.f K)] = [inText.val, inHouse.val, inMisfit.val] := z
  simp only [List.cons.injEq, and_true] at z'
  exact z'
theorem blt_of (X : K.In h) (G : h.Ns mainGlobals mg) (S : SaysN w h K) : Nv.Blt mg := ⟨free_of X G S, free_of X G S, free_of X G S, free_of X G S, free_of X G S, free_of X G S, free_of X G S, free_of X G S, free_of X G S, free_of X G S, free_of X G S, free_of X G S⟩
theorem bltH_of (X : K.In h) (G : h.Ns mainGlobals mg) (S : SaysN w h K) : Nv.BltH mg := ⟨free_of X G S, free_of X G S, free_of X G S, free_of X G S⟩
theorem own_of (S : SaysN w h K) : L2.OwnQ K (He.ga K "House") (He.ma K (He.ga K "House") "__eq__") := by
  obtain ⟨_, _, _, _, o, _⟩ := ex_of S
  unfold ownB at o
  obtain ⟨o1, o2⟩ := Bool.and_eq_true_iff.mp o
  obtain ⟨o3, o4⟩ := Bool.and_eq_true_iff.mp o2
  refine ⟨?_, He.eqO_ok o3, o4⟩
  split at o1
  · rename_i t dd cd sl lk
    split at o1
    · rename_i D o k0 k1 k2 k3 n k5 em es
      obtain ⟨h1, o1⟩ := Bool.and_eq_true_iff.mp o1
      obtain ⟨h2, o1⟩ := Bool.and_eq_true_iff.mp o1
      obtain ⟨h3, o1⟩ := Bool.and_eq_true_iff.mp o1
      obtain ⟨h4, o1⟩ := Bool.and_eq_true_iff.mp o1
      obtain ⟨h5, o1⟩ := Bool.and_eq_true_iff.mp o1
      obtain ⟨h6, h7⟩ := Bool.and_eq_true_iff.mp o1
      have t1 := of_decide_eq_true h1
      have t2 := of_decide_eq_true h2
      have t3 := of_decide_eq_true h3
      subst t1 t2 t3
      obtain ⟨nm, bs, mro, ns, qn, hd, sn, sub, ab, col, del⟩ := cd
      replace em : mro = [.ref _, .type "object"] := em
      replace h4 : (!del) = true := h4
      have h4' : del = false := by simpa using h4
      subst em h4'
      have hs : sl = #[k0, k1, k2, k3, some (.builtin n), k5] := by
        cases sl with
        | mk l => exact congrArg Array.mk es
      subst hs
      exact ⟨nm, qn, _, bs, hd, sn, sub, ab, col, dd, k0, k1, k2, k3, k5, n, lk, h5, He.eqO_ok h6, He.eqO_ok h7⟩
    · cases o1
  · cases o1
theorem kit_of (S : SaysN w h K) (i : Nat) {b : Bool} (e : (kitL K)[i]? = some b := by rfl) : b = true := by
  obtain ⟨_, _, _, x, _, _⟩ := ex_of S
  exact all_at x i e
theorem oth_of (S : SaysN w h K) {x : Str} (hx : x ∈ othL := by decide +kernel) : kitOne K (.ref (He.ga K "BadHouse")) (.ref (He.ga K x)) = some false := of_decide_eq_true (List.all_eq_true.mp (kit_of S 0) x hx)
theorem tup_of (S : SaysN w h K) {x : Str} {l : List Str} (hx : (x, l) ∈ tupL) : L2.SqT K Nv.H0 (He.ga K x) (l.map L2.V.str) := by
  have z := List.all_eq_true.mp (kit_of S 4) (x, l) hx
  have q := He.tupB_ok z Nv.H0
  rw [List.map_map] at q
  exact q
theorem base_of (S : SaysN w h K) {t : Value} (ht : t ∈ baseL) : kitOne K t (.ref (He.ga K "House")) = some false := of_decide_eq_true (List.all_eq_true.mp (kit_of S 3) t ht)
abbrev csK (K : Frag) : Nv.Cs := ⟨He.ga K "GoneError", He.ga K "TooMany", He.ga K "BadText", He.ga K "BadProgram", He.ga K "BadLine", He.ga K "BadHeap", He.ga K "BadStep", He.ga K "BadNumber", He.ga K "BadValue", He.ga K "Misfit", He.ga K "Nothing"⟩
/-- all that the walks ask -/
structure Fx (A : Nv.Ads) (w : World) (K : Frag) (mg : Str → Option Value) : Prop where
  B : Nv.Blt mg
  BH : Nv.BltH mg
  T : Nv.Tx A PR w K mg
  Y : Nv.Tp A K
  S : Nv.Sx A K
  X : Nv.Hx A K
  H : Nv.HxE A K mg (csK K)
  scan : A.cScan = He.ga K "Scan"
  house : A.cHouse = He.ga K "House"
theorem fx_of (X : K.In h) (G : h.Ns mainGlobals mg) (S : SaysN w h K) : ∃ A, Fx A w K mg := by
  obtain ⟨x1, x2, x3, _, _, x6⟩ := ex_of S
  obtain ⟨q1, q2, q3⟩ := fnz_of S
  unfold insB at x6
  obtain ⟨i1, i⟩ := Bool.and_eq_true_iff.mp x6
  obtain ⟨i2, i⟩ := Bool.and_eq_true_iff.mp i
  obtain ⟨i3, i4⟩ := Bool.and_eq_true_iff.mp i
  have tm : ∀ {x : Str} {l : List Str}, (x, l) ∈ tupL → L2.SqT K Nv.H0 (He.ga K x) (l.map L2.V.str) := fun hx => tup_of S hx
  refine ⟨⟨He.ga K "Scan", He.ga K "House", He.ga K "BadText", He.ma K (He.ga K "BadText") "__init__", He.ga K "BadHouse", He.ma K (He.ga K "BadHouse") "__init__", He.ga K "Misfit", He.ma K (He.ga K "Misfit") "__init__",
    He.ga K "ROOMS", He.ga K "GUARDS", He.ga K "REMEMBERS", He.ga K "ORDERS", He.ga K "NEEDS", He.ga K "BREAKS", He.ga K "COLLECTORS", He.ga K "TRUTHS"⟩, blt_of X G S, bltH_of X G S, ?_, ?_, ?_, ?_, ?_, rfl, rfl⟩
  · refine ⟨glo_of X G S, glo_of X G S, glo_of X G S, glo_of X G S, glo_of X G S, glo_of X G S, glo_of X G S, glo_of X G S, He.str_ok X G (last_of S), He.str_ok X G (last_of S), He.str_ok X G (last_of S),
      int_of X G S, int_of X G S, int_of X G S, int_of X G S, int_of X G S, int_of X G S, int_of X G S, glo_of X G S, He.cls_ok (last_of S), glo_of X G S, He.cls_ok (last_of S), ?_, ?_, ?_⟩
    · exact txt_of wr_text x1 q1 (glo_of X G S)
    · exact txt_of wr_house x2 q2 (glo_of X G S)
    · exact txt_of wr_misfit x3 q3 (glo_of X G S)
  · refine ⟨tm (x := "ROOMS") (by simp [tupL, Nv.lROOMS]), tm (x := "GUARDS") (by simp [tupL, Nv.lGUARDS]), tm (x := "REMEMBERS") (by simp [tupL, Nv.lREMEMBERS]), tm (x := "ORDERS") (by simp [tupL, Nv.lORDERS]), tm (x := "NEEDS") (by simp [tupL, Nv.lNEEDS]), tm (x := "BREAKS") (by simp [tupL, Nv.lBREAKS]), tm (x := "COLLECTORS") (by simp [tupL, Nv.lCOLLECTORS]), tm (x := "TRUTHS") (by simp [tupL, Nv.lTRUTHS])⟩
  · exact ⟨He.cls_ok (last_of S), He.noat_ok (last_of S), He.noat_ok (last_of S), He.noat_ok (last_of S)⟩
  · refine ⟨He.cls_ok (last_of S), fun f hf => ?_, ⟨He.cls_ok (last_of S), He.eqO_ok i1, He.eqO_ok i2, of_decide_eq_true i3, of_decide_eq_true i4⟩, of_decide_eq_true (kit_of S 2), fun d hd => ?_⟩
    · exact He.noat_ok (x := "House") (f := f) (last_of S (by
        unfold lastL
        simp only [Nv.hF, List.mem_cons, List.not_mem_nil, or_false] at hf
        rcases hf with rfl | rfl | rfl | rfl | rfl | rfl | rfl | rfl | rfl | rfl | rfl <;> simp))
    · cases d with
      | ins C => cases hd
      | _ => exact base_of S (by simp [baseL, Nv.typ])
  · refine ⟨glo_of X G S, glo_of X G S, glo_of X G S, glo_of X G S, glo_of X G S, glo_of X G S, glo_of X G S, glo_of X G S, glo_of X G S, glo_of X G S, glo_of X G S, glo_of X G S, He.exm_ok (last_of S), excC_of x2, xfC_of x2, He.noat_ok (x := "BadHouse") (last_of S), fun z hz => ?_, of_decide_eq_true (kit_of S 1)⟩
    simp only [csK, List.mem_cons, List.not_mem_nil, or_false] at hz
    rcases hz with rfl | rfl | rfl | rfl | rfl | rfl | rfl | rfl | rfl | rfl <;> exact oth_of S
end
end NvK
set_option Elab.async false
set_option linter.all false
set_option maxRecDepth 100000
set_option maxHeartbeats 4000000
namespace Nv
open PySem PySem.Spec PyProof.Rows L2 StX NvZ
abbrev st_is_integer : Stmt := PySem.Challenge.pw_nevergone_k91_texts_of_houses_written_an.main.body.getD 2 (.Pass ⟨0, 0, 0, 0⟩)
theorem sc_is_integer : FnScope ["value"] ["value"] (defScope st_is_integer) := ⟨rfl, rfl, rfl, by decide +kernel, rfl, by decide +kernel, by decide +kernel⟩
abbrev st_is_within : Stmt := PySem.Challenge.pw_nevergone_k91_texts_of_houses_written_an.main.body.getD 3 (.Pass ⟨0, 0, 0, 0⟩)
theorem sc_is_within : FnScope ["value", "least", "most"] ["value", "least", "most"] (defScope st_is_within) := ⟨rfl, rfl, rfl, by decide +kernel, rfl, by decide +kernel, by decide +kernel⟩
abbrev st_is_listed : Stmt := PySem.Challenge.pw_nevergone_k91_texts_of_houses_written_an.main.body.getD 4 (.Pass ⟨0, 0, 0, 0⟩)
theorem sc_is_listed : FnScope ["value"] ["value"] (defScope st_is_listed) := ⟨rfl, rfl, rfl, by decide +kernel, rfl, by decide +kernel, by decide +kernel⟩
abbrev st_is_lot : Stmt := PySem.Challenge.pw_nevergone_k91_texts_of_houses_written_an.main.body.getD 5 (.Pass ⟨0, 0, 0, 0⟩)
theorem sc_is_lot : FnScope ["value", "least", "most", "part", "one", "other"] ["value", "least", "most"] (defScope st_is_lot) := ⟨rfl, rfl, rfl, by decide +kernel, rfl, by decide +kernel, by decide +kernel⟩
abbrev st_is_word : Stmt := PySem.Challenge.pw_nevergone_k91_texts_of_houses_written_an.main.body.getD 6 (.Pass ⟨0, 0, 0, 0⟩)
theorem sc_is_word : FnScope ["value", "words"] ["value", "words"] (defScope st_is_word) := ⟨rfl, rfl, rfl, by decide +kernel, rfl, by decide +kernel, by decide +kernel⟩
abbrev st_is_word_lot : Stmt := PySem.Challenge.pw_nevergone_k91_texts_of_houses_written_an.main.body.getD 7 (.Pass ⟨0, 0, 0, 0⟩)
theorem sc_is_word_lot : FnScope ["value", "words", "part", "one", "other"] ["value", "words"] (defScope st_is_word_lot) := ⟨rfl, rfl, rfl, by decide +kernel, rfl, by decide +kernel, by decide +kernel⟩
abbrev st_is_plain_tuple : Stmt := PySem.Challenge.pw_nevergone_k91_texts_of_houses_written_an.main.body.getD 8 (.Pass ⟨0, 0, 0, 0⟩)
theorem sc_is_plain_tuple : FnScope ["value", "many"] ["value", "many"] (defScope st_is_plain_tuple) := ⟨rfl, rfl, rfl, by decide +kernel, rfl, by decide +kernel, by decide +kernel⟩
abbrev st_fixed : Stmt := PySem.Challenge.pw_nevergone_k91_texts_of_houses_written_an.main.body.getD 23 (.Pass ⟨0, 0, 0, 0⟩)
theorem sc_fixed : FnScope ["value", "part"] ["value"] (defScope st_fixed) := ⟨rfl, rfl, rfl, by decide +kernel, rfl, by decide +kernel, by decide +kernel⟩
abbrev st_are_kinds : Stmt := PySem.Challenge.pw_nevergone_k91_texts_of_houses_written_an.main.body.getD 38 (.Pass ⟨0, 0, 0, 0⟩)
theorem sc_are_kinds : FnScope ["value", "kind"] ["value"] (defScope st_are_kinds) := ⟨rfl, rfl, rfl, by decide +kernel, rfl, by decide +kernel, by decide +kernel⟩
abbrev st_is_kind : Stmt := PySem.Challenge.pw_nevergone_k91_texts_of_houses_written_an.main.body.getD 39 (.Pass ⟨0, 0, 0, 0⟩)
theorem sc_is_kind : FnScope ["value", "many", "lot"] ["value", "many"] (defScope st_is_kind) := ⟨rfl, rfl, rfl, by decide +kernel, rfl, by decide +kernel, by decide +kernel⟩
abbrev st_is_collector : Stmt := PySem.Challenge.pw_nevergone_k91_texts_of_houses_written_an.main.body.getD 40 (.Pass ⟨0, 0, 0, 0⟩)
theorem sc_is_collector : FnScope ["value", "word", "rest"] ["value"] (defScope st_is_collector) := ⟨rfl, rfl, rfl, by decide +kernel, rfl, by decide +kernel, by decide +kernel⟩
abbrev st_need_parts : Stmt := PySem.Challenge.pw_nevergone_k91_texts_of_houses_written_an.main.body.getD 41 (.Pass ⟨0, 0, 0, 0⟩)
theorem sc_need_parts : FnScope ["rows", "part", "is_right"] ["rows"] (defScope st_need_parts) := ⟨rfl, rfl, rfl, by decide +kernel, rfl, by decide +kernel, by decide +kernel⟩
abbrev st_misfit_of : Stmt := PySem.Challenge.pw_nevergone_k91_texts_of_houses_written_an.main.body.getD 42 (.Pass ⟨0, 0, 0, 0⟩)
theorem sc_misfit_of : FnScope ["house", "word"] ["house"] (defScope st_misfit_of) := ⟨rfl, rfl, rfl, by decide +kernel, rfl, by decide +kernel, by decide +kernel⟩
abbrev st_House___init__ : Stmt := (C8.clsBody (PySem.Challenge.pw_nevergone_k91_texts_of_houses_written_an.main.body.getD 43 (.Pass ⟨0, 0, 0, 0⟩))).getD 0 (.Pass ⟨0, 0, 0, 0⟩)
theorem sc_House___init__ : FnScope ["self", "cells", "kinds", "registers", "live", "rooms", "collector", "pace", "need", "slide", "asked", "rows", "part"] ["self", "cells", "kinds", "registers", "live", "rooms", "collector", "pace", "need", "slide", "asked"] (defScope st_House___init__) := ⟨rfl, rfl, rfl, by decide +kernel, rfl, by decide +kernel, by decide +kernel⟩
abbrev st_House___eq__ : Stmt := (C8.clsBody (PySem.Challenge.pw_nevergone_k91_texts_of_houses_written_an.main.body.getD 43 (.Pass ⟨0, 0, 0, 0⟩))).getD 1 (.Pass ⟨0, 0, 0, 0⟩)
theorem sc_House___eq__ : FnScope ["self", "other"] ["self", "other"] (defScope st_House___eq__) := ⟨rfl, rfl, rfl, by decide +kernel, rfl, by decide +kernel, by decide +kernel⟩
abbrev st_House_row : Stmt := (C8.clsBody (PySem.Challenge.pw_nevergone_k91_texts_of_houses_written_an.main.body.getD 43 (.Pass ⟨0, 0, 0, 0⟩))).getD 2 (.Pass ⟨0, 0, 0, 0⟩)
theorem sc_House_row : FnScope ["self", "first"] ["self"] (defScope st_House_row) := ⟨rfl, rfl, rfl, by decide +kernel, rfl, by decide +kernel, by decide +kernel⟩
abbrev st_need_house : Stmt := PySem.Challenge.pw_nevergone_k91_texts_of_houses_written_an.main.body.getD 44 (.Pass ⟨0, 0, 0, 0⟩)
theorem sc_need_house : FnScope ["value", "part"] ["value", "part"] (defScope st_need_house) := ⟨rfl, rfl, rfl, by decide +kernel, rfl, by decide +kernel, by decide +kernel⟩
section
variable {A : Ads} {P : Program} {w : World} {K : PySem.W.Frag} {mg : Str → Option Value} {base : Heap} (B : Blt mg) (BH : BltH mg) (T : Tx A P w K mg)
include B BH T
theorem wk_is_integer {k : Nat} {sp : Sp}  {f : Addr} {fd : FuncData} {dvs : List V} (F : FnP K "is_integer" "is_integer" st_is_integer dvs f fd) (len : ∀ vs H Q E, sp vs H Q E → vs.length = 1) (ok : ∀ vs H Q E, sp vs H Q E → (t_is_integer K A E) { nx := fun _ H' => Q .non H', rt := Q } (start ["value"] vs) H) : FnOk P w K mg base CX0 (k + 1) f fd ["value"] sp := by
  have nd := sc_is_integer.nd
  refine F.ok sc_is_integer len fun cdv A' outer s H vs Q E hr h => ⟨t_is_integer K A E, PSs.nox ?_, ok vs H Q E h⟩
  exact (pss_one (ps_ret (pe_and (pe_isi B (pv 0) B.int bt_int) (pe_one (pe_not (pe_isi B (pv 0) B.bool bt_bool))))))
theorem wk_is_within {k : Nat} {sp : Sp} {sp_is_integer : Sp} (c_is_integer : Cal P w K mg base CX0 k "is_integer" ["value"] sp_is_integer) {f : Addr} {fd : FuncData} {dvs : List V} (F : FnP K "is_within" "is_within" st_is_within dvs f fd) (len : ∀ vs H Q E, sp vs H Q E → vs.length = 3) (ok : ∀ vs H Q E, sp vs H Q E → (t_is_within K A E sp_is_integer) { nx := fun _ H' => Q .non H', rt := Q } (start ["value", "least", "most"] vs) H) : FnOk P w K mg base CX0 (k + 1) f fd ["value", "least", "most"] sp := by
  have nd := sc_is_within.nd
  refine F.ok sc_is_within len fun cdv A' outer s H vs Q E hr h => ⟨t_is_within K A E sp_is_integer, PSs.nox ?_, ok vs H Q E h⟩
  exact (pss_one (ps_ret (pe_and (pe_cal c_is_integer hr pass0 (pa_cons (pv 0) pa_nil)) (pe_one (pe_chain op_le op_le (pv 1) (pv 0) (pv 2))))))
theorem wk_is_listed {k : Nat} {sp : Sp}  {f : Addr} {fd : FuncData} {dvs : List V} (F : FnP K "is_listed" "is_listed" st_is_listed dvs f fd) (len : ∀ vs H Q E, sp vs H Q E → vs.length = 1) (ok : ∀ vs H Q E, sp vs H Q E → (t_is_listed K A E) { nx := fun _ H' => Q .non H', rt := Q } (start ["value"] vs) H) : FnOk P w K mg base CX0 (k + 1) f fd ["value"] sp := by
  have nd := sc_is_listed.nd
  refine F.ok sc_is_listed len fun cdv A' outer s H vs Q E hr h => ⟨t_is_listed K A E, PSs.nox ?_, ok vs H Q E h⟩
  exact (pss_one (ps_ret (pe_isiLT B (pv 0))))
theorem wk_is_lot {k : Nat} {sp : Sp} {sp_is_listed : Sp} {sp_is_within : Sp} (c_is_listed : Cal P w K mg base CX0 k "is_listed" ["value"] sp_is_listed) (c_is_within : Cal P w K mg base CX0 k "is_within" ["value", "least", "most"] sp_is_within) {f : Addr} {fd : FuncData} {dvs : List V} (F : FnP K "is_lot" "is_lot" st_is_lot dvs f fd) (len : ∀ vs H Q E, sp vs H Q E → vs.length = 3) (ok : ∀ vs H Q E, sp vs H Q E → (t_is_lot K A E sp_is_listed sp_is_within) { nx := fun _ H' => Q .non H', rt := Q } (start ["value", "least", "most", "part", "one", "other"] vs) H) : FnOk P w K mg base CX0 (k + 1) f fd ["value", "least", "most"] sp := by
  have nd := sc_is_lot.nd
  refine F.ok sc_is_lot len fun cdv A' outer s H vs Q E hr h => ⟨t_is_lot K A E sp_is_listed sp_is_within, PSs.nox ?_, ok vs H Q E h⟩
  exact (pss_cons (ps_if (PW.pt (pw_or (pt_not (pt_val (pe_cal c_is_listed hr pass0 (pa_cons (pv 0) pa_nil)))) (pw_or1 (pt_not (pt_val (pe_all B rfl (pe_lc (own := [("part", 3)]) (g := (gName 3)) (tt := tYes) rfl nd (pi_seq (pv 0)) (blkOk_by (N := ["value", "least", "most", "part", "one", "other"]) (sc := defScope st_is_lot) (by decide +kernel)) (fun _ _ _ _ _ => (pg_name (i := 3) nd rfl (by first | exact Or.inl rfl | exact Or.inr rfl))) (fun _ _ _ _ _ => pts_nil) (fun _ _ _ _ _ => (pe_cal c_is_within hr pass0 (pa_cons (pv 3) (pa_cons (pv 1) (pa_cons (pv 2) pa_nil)))))))))))) (pss_one (ps_ret pe_bl)) pss_nil) (pss_one (ps_ret (pe_all B rfl (pe_lc (own := [("one", 4), ("other", 5)]) (g := (gTup K 2 (gCons (gName 4) (gCons (gName 5) gNil)))) (tt := tYes) rfl nd (pi_zipS (by rfl) B.zip (pa_cons (pv 0) (pa_cons (pe_slice sl_any (pv 0) (po_some pe_int) po_none) pa_nil))) (blkOk_by (N := ["value", "least", "most", "part", "one", "other"]) (sc := defScope st_is_lot) (by decide +kernel)) (fun _ _ _ _ _ => (pg_tup rfl (pgs_cons (pg_name (i := 4) nd rfl (by first | exact Or.inl rfl | exact Or.inr rfl)) (pgs_cons (pg_name (i := 5) nd rfl (by first | exact Or.inl rfl | exact Or.inr rfl)) pgs_nil)))) (fun _ _ _ _ _ => pts_nil) (fun _ _ _ _ _ => (pe_cmpR op_lt (pv 4) (pv 5) (nomark _))))))))
theorem wk_is_word {k : Nat} {sp : Sp}  {f : Addr} {fd : FuncData} {dvs : List V} (F : FnP K "is_word" "is_word" st_is_word dvs f fd) (len : ∀ vs H Q E, sp vs H Q E → vs.length = 2) (ok : ∀ vs H Q E, sp vs H Q E → (t_is_word K A E) { nx := fun _ H' => Q .non H', rt := Q } (start ["value", "words"] vs) H) : FnOk P w K mg base CX0 (k + 1) f fd ["value", "words"] sp := by
  have nd := sc_is_word.nd
  refine F.ok sc_is_word len fun cdv A' outer s H vs Q E hr h => ⟨t_is_word K A E, PSs.nox ?_, ok vs H Q E h⟩
  exact (pss_one (ps_ret (pe_and (pe_isi B (pv 0) B.str bt_str) (pe_one (pe_cmpR op_in_seq (pv 0) (pv 1) (by rfl))))))
theorem wk_is_word_lot {k : Nat} {sp : Sp} {sp_is_listed : Sp} {sp_is_word : Sp} (c_is_listed : Cal P w K mg base CX0 k "is_listed" ["value"] sp_is_listed) (c_is_word : Cal P w K mg base CX0 k "is_word" ["value", "words"] sp_is_word) {f : Addr} {fd : FuncData} {dvs : List V} (F : FnP K "is_word_lot" "is_word_lot" st_is_word_lot dvs f fd) (len : ∀ vs H Q E, sp vs H Q E → vs.length = 2) (ok : ∀ vs H Q E, sp vs H Q E → (t_is_word_lot K A E sp_is_listed sp_is_word) { nx := fun _ H' => Q .non H', rt := Q } (start ["value", "words", "part", "one", "other"] vs) H) : FnOk P w K mg base CX0 (k + 1) f fd ["value", "words"] sp := by
  have nd := sc_is_word_lot.nd
  refine F.ok sc_is_word_lot len fun cdv A' outer s H vs Q E hr h => ⟨t_is_word_lot K A E sp_is_listed sp_is_word, PSs.nox ?_, ok vs H Q E h⟩
  exact (pss_cons (ps_if (PW.pt (pw_or (pt_not (pt_val (pe_cal c_is_listed hr pass0 (pa_cons (pv 0) pa_nil)))) (pw_or1 (pt_not (pt_val (pe_all B rfl (pe_lc (own := [("part", 2)]) (g := (gName 2)) (tt := tYes) rfl nd (pi_seq (pv 0)) (blkOk_by (N := ["value", "words", "part", "one", "other"]) (sc := defScope st_is_word_lot) (by decide +kernel)) (fun _ _ _ _ _ => (pg_name (i := 2) nd rfl (by first | exact Or.inl rfl | exact Or.inr rfl))) (fun _ _ _ _ _ => pts_nil) (fun _ _ _ _ _ => (pe_cal c_is_word hr pass0 (pa_cons (pv 2) (pa_cons (pv 1) pa_nil))))))))))) (pss_one (ps_ret pe_bl)) pss_nil) (pss_one (ps_ret (pe_all B rfl (pe_lc (own := [("one", 3), ("other", 4)]) (g := (gTup K 2 (gCons (gName 3) (gCons (gName 4) gNil)))) (tt := tYes) rfl nd (pi_zipS (by rfl) B.zip (pa_cons (pv 0) (pa_cons (pe_slice sl_any (pv 0) (po_some pe_int) po_none) pa_nil))) (blkOk_by (N := ["value", "words", "part", "one", "other"]) (sc := defScope st_is_word_lot) (by decide +kernel)) (fun _ _ _ _ _ => (pg_tup rfl (pgs_cons (pg_name (i := 3) nd rfl (by first | exact Or.inl rfl | exact Or.inr rfl)) (pgs_cons (pg_name (i := 4) nd rfl (by first | exact Or.inl rfl | exact Or.inr rfl)) pgs_nil)))) (fun _ _ _ _ _ => pts_nil) (fun _ _ _ _ _ => (pe_cmpR op_lt_str (pv 3) (pv 4) (nomark _))))))))
theorem wk_is_plain_tuple {k : Nat} {sp : Sp} {sp_is_listed : Sp} (c_is_listed : Cal P w K mg base CX0 k "is_listed" ["value"] sp_is_listed) {f : Addr} {fd : FuncData} {dvs : List V} (F : FnP K "is_plain_tuple" "is_plain_tuple" st_is_plain_tuple dvs f fd) (len : ∀ vs H Q E, sp vs H Q E → vs.length = 2) (ok : ∀ vs H Q E, sp vs H Q E → (t_is_plain_tuple K A E sp_is_listed) { nx := fun _ H' => Q .non H', rt := Q } (start ["value", "many"] vs) H) : FnOk P w K mg base CX0 (k + 1) f fd ["value", "many"] sp := by
  have nd := sc_is_plain_tuple.nd
  refine F.ok sc_is_plain_tuple len fun cdv A' outer s H vs Q E hr h => ⟨t_is_plain_tuple K A E sp_is_listed, PSs.nox ?_, ok vs H Q E h⟩
  exact (pss_one (ps_ret (pe_and (pe_cal c_is_listed hr pass0 (pa_cons (pv 0) pa_nil)) (pe_one (pe_cmpR (op_eqD hr.units) (pe_len B (pv 0)) (pv 1) (nomark _))))))
theorem wk_fixed {k : Nat} {sp : Sp} {sp_fixed : Sp} (c_fixed : Cal P w K mg base CX0 k "fixed" ["value"] sp_fixed) {f : Addr} {fd : FuncData} {dvs : List V} (F : FnP K "fixed" "fixed" st_fixed dvs f fd) (len : ∀ vs H Q E, sp vs H Q E → vs.length = 1) (ok : ∀ vs H Q E, sp vs H Q E → (t_fixed K A E sp_fixed) { nx := fun _ H' => Q .non H', rt := Q } (start ["value", "part"] vs) H) : FnOk P w K mg base CX0 (k + 1) f fd ["value"] sp := by
  have nd := sc_fixed.nd
  refine F.ok sc_fixed len fun cdv A' outer s H vs Q E hr h => ⟨t_fixed K A E sp_fixed, PSs.nox ?_, ok vs H Q E h⟩
  exact (pss_cons (ps_if (pt_val (pe_isiLT B (pv 0))) (pss_one (ps_ret (pe_tupOf B (pe_lc (own := [("part", 1)]) (g := (gName 1)) (tt := tYes) rfl nd (pi_seq (pv 0)) (blkOk_by (N := ["value", "part"]) (sc := defScope st_fixed) (by decide +kernel)) (fun _ _ _ _ _ => (pg_name (i := 1) nd rfl (by first | exact Or.inl rfl | exact Or.inr rfl))) (fun _ _ _ _ _ => pts_nil) (fun _ _ _ _ _ => (pe_cal c_fixed hr pass0 (pa_cons (pv 1) pa_nil))))))) pss_nil) (pss_one (ps_ret (pv 0))))
theorem wk_are_kinds {k : Nat} {sp : Sp} {sp_is_listed : Sp} {sp_is_kind : Sp} (c_is_listed : Cal P w K mg base CX0 k "is_listed" ["value"] sp_is_listed) (c_is_kind : Cal P w K mg base CX0 k "is_kind" ["value", "many"] sp_is_kind) {f : Addr} {fd : FuncData} {dvs : List V} (F : FnP K "are_kinds" "are_kinds" st_are_kinds dvs f fd) (len : ∀ vs H Q E, sp vs H Q E → vs.length = 1) (ok : ∀ vs H Q E, sp vs H Q E → (t_are_kinds K A E sp_is_listed sp_is_kind) { nx := fun _ H' => Q .non H', rt := Q } (start ["value", "kind"] vs) H) : FnOk P w K mg base CX0 (k + 1) f fd ["value"] sp := by
  have nd := sc_are_kinds.nd
  refine F.ok sc_are_kinds len fun cdv A' outer s H vs Q E hr h => ⟨t_are_kinds K A E sp_is_listed sp_is_kind, PSs.nox ?_, ok vs H Q E h⟩
  exact (pss_cons (ps_if (PW.pt (pw_or (pt_not (pt_val (pe_cal c_is_listed hr pass0 (pa_cons (pv 0) pa_nil)))) (pw_or1 (pt_not (pt_chain op_le op_le pe_int (pe_len B (pv 0)) (pe_globI T.gMOST_KINDS)))))) (pss_one (ps_ret pe_bl)) pss_nil) (pss_one (ps_ret (pe_all B rfl (pe_lc (own := [("kind", 1)]) (g := (gName 1)) (tt := tYes) rfl nd (pi_seq (pv 0)) (blkOk_by (N := ["value", "kind"]) (sc := defScope st_are_kinds) (by decide +kernel)) (fun _ _ _ _ _ => (pg_name (i := 1) nd rfl (by first | exact Or.inl rfl | exact Or.inr rfl))) (fun _ _ _ _ _ => pts_nil) (fun _ _ _ _ _ => (pe_cal c_is_kind hr pass0 (pa_cons (pv 1) (pa_cons (pe_len B (pv 0)) pa_nil)))))))))
theorem wk_is_kind {k : Nat} {sp : Sp} {sp_is_plain_tuple : Sp} {sp_is_within : Sp} {sp_is_listed : Sp} {sp_is_lot : Sp} (c_is_plain_tuple : Cal P w K mg base CX0 k "is_plain_tuple" ["value", "many"] sp_is_plain_tuple) (c_is_within : Cal P w K mg base CX0 k "is_within" ["value", "least", "most"] sp_is_within) (c_is_listed : Cal P w K mg base CX0 k "is_listed" ["value"] sp_is_listed) (c_is_lot : Cal P w K mg base CX0 k "is_lot" ["value", "least", "most"] sp_is_lot) {f : Addr} {fd : FuncData} {dvs : List V} (F : FnP K "is_kind" "is_kind" st_is_kind dvs f fd) (len : ∀ vs H Q E, sp vs H Q E → vs.length = 2) (ok : ∀ vs H Q E, sp vs H Q E → (t_is_kind K A E sp_is_plain_tuple sp_is_within sp_is_listed sp_is_lot) { nx := fun _ H' => Q .non H', rt := Q } (start ["value", "many", "lot"] vs) H) : FnOk P w K mg base CX0 (k + 1) f fd ["value", "many"] sp := by
  have nd := sc_is_kind.nd
  refine F.ok sc_is_kind len fun cdv A' outer s H vs Q E hr h => ⟨t_is_kind K A E sp_is_plain_tuple sp_is_within sp_is_listed sp_is_lot, PSs.nox ?_, ok vs H Q E h⟩
  exact (pss_cons (ps_if (PW.pt (pw_or (pt_not (pt_val (pe_cal c_is_plain_tuple hr pass0 (pa_cons (pv 0) (pa_cons pe_int pa_nil))))) (pw_or (pt_not (pt_val (pe_cal c_is_within hr pass0 (pa_cons (pe_ix ix_seq (pv 0) pe_int (fun _ _ => rfl)) (pa_cons pe_int (pa_cons (pe_globI T.gMOST_SIZE) pa_nil)))))) (pw_or1 (pt_not (pt_val (pe_cal c_is_listed hr pass0 (pa_cons (pe_ix ix_seq (pv 0) pe_int (fun _ _ => rfl)) pa_nil)))))))) (pss_one (ps_ret pe_bl)) pss_nil) (pss_one (ps_ret (pe_and (pe_cmpR op_le (pe_len B (pe_ix ix_seq (pv 0) pe_int (fun _ _ => rfl))) (pe_min BH rfl (pa_cons (pe_ix ix_seq (pv 0) pe_int (fun _ _ => rfl)) (pa_cons (pe_globI T.gMOST_LINKS) pa_nil))) (nomark _)) (pe_one (pe_all B rfl (pe_lc (own := [("lot", 2)]) (g := (gName 2)) (tt := tYes) rfl nd (pi_seq (pe_ix ix_seq (pv 0) pe_int (fun _ _ => rfl))) (blkOk_by (N := ["value", "many", "lot"]) (sc := defScope st_is_kind) (by decide +kernel)) (fun _ _ _ _ _ => (pg_name (i := 2) nd rfl (by first | exact Or.inl rfl | exact Or.inr rfl))) (fun _ _ _ _ _ => pts_nil) (fun _ _ _ _ _ => (pe_cal c_is_lot hr pass0 (pa_cons (pv 2) (pa_cons pe_int (pa_cons (pe_op op_sub (pv 1) pe_int) pa_nil))))))))))))
theorem wk_is_collector {k : Nat} {sp : Sp} {sp_is_listed : Sp} {sp_is_word_lot : Sp} {sp_is_within : Sp} {sp_is_word : Sp} (c_is_listed : Cal P w K mg base CX0 k "is_listed" ["value"] sp_is_listed) (c_is_word_lot : Cal P w K mg base CX0 k "is_word_lot" ["value", "words"] sp_is_word_lot) (c_is_within : Cal P w K mg base CX0 k "is_within" ["value", "least", "most"] sp_is_within) (c_is_word : Cal P w K mg base CX0 k "is_word" ["value", "words"] sp_is_word) {f : Addr} {fd : FuncData} {dvs : List V} (F : FnP K "is_collector" "is_collector" st_is_collector dvs f fd) (len : ∀ vs H Q E, sp vs H Q E → vs.length = 1) (ok : ∀ vs H Q E, sp vs H Q E → (t_is_collector K A E sp_is_listed sp_is_word_lot sp_is_within sp_is_word) { nx := fun _ H' => Q .non H', rt := Q } (start ["value", "word", "rest"] vs) H) : FnOk P w K mg base CX0 (k + 1) f fd ["value"] sp := by
  have nd := sc_is_collector.nd
  refine F.ok sc_is_collector len fun cdv A' outer s H vs Q E hr h => ⟨t_is_collector K A E sp_is_listed sp_is_word_lot sp_is_within sp_is_word, PSs.nox ?_, ok vs H Q E h⟩
  exact (pss_cons (ps_if (PW.pt (pw_or (pt_not (pt_val (pe_cal c_is_listed hr pass0 (pa_cons (pv 0) pa_nil)))) (pw_or (pt_cmpR (op_eqD hr.units) (pe_len B (pv 0)) pe_int (nomark _)) (pw_or1 (pt_not (pt_val (pe_isi B (pe_ix ix_seq (pv 0) pe_int (fun _ _ => rfl)) B.str bt_str))))))) (pss_one (ps_ret pe_bl)) pss_nil) (pss_cons (ps_par (i := 1) (j := 2) (by rfl) nd rfl rfl (by decide) rfl rfl (pa_cons (pe_ix ix_seq (pv 0) pe_int (fun _ _ => rfl)) (pa_cons (pe_listOf B (pe_slice sl_any (pv 0) (po_some pe_int) po_none)) pa_nil)) (by rfl)) (pss_cons (ps_if (pt_cmpR op_in_seq (pv 1) (pe_tup (pa_cons pe_str (pa_cons pe_str pa_nil))) (by rfl)) (pss_one (ps_ret (pe_cmpR (op_eqD hr.units) (pv 2) (pe_lst pa_nil) (nomark _)))) pss_nil) (pss_cons (ps_if (pt_cmpR (op_eqD hr.units) (pv 1) pe_str (nomark _)) (pss_one (ps_ret (pe_and (pe_cmpR (op_eqD hr.units) (pe_len B (pv 2)) pe_int (nomark _)) (pe_one (pe_cal c_is_word_lot hr pass0 (pa_cons (pe_ix ix_seq (pv 2) pe_int (fun _ _ => rfl)) (pa_cons (pe_globR T.gGUARDS) pa_nil))))))) pss_nil) (pss_cons (ps_if (pt_cmpR (op_eqD hr.units) (pv 1) pe_str (nomark _)) (pss_one (ps_ret (pe_and (pe_cmpR (op_eqD hr.units) (pe_len B (pv 2)) pe_int (nomark _)) (pe_and (pe_or (pe_cmpR op_isN (pe_ix ix_seq (pv 2) pe_int (fun _ _ => rfl)) pe_non (nomark _)) (pe_one (pe_cal c_is_within hr pass0 (pa_cons (pe_ix ix_seq (pv 2) pe_int (fun _ _ => rfl)) (pa_cons pe_int (pa_cons (pe_globI T.gMOST_COUNT) pa_nil)))))) (pe_one (pe_cal c_is_word hr pass0 (pa_cons (pe_ix ix_seq (pv 2) pe_int (fun _ _ => rfl)) (pa_cons (pe_globR T.gORDERS) pa_nil)))))))) pss_nil) (pss_one (ps_ret (pe_and (pe_cmpR (op_eqD hr.units) (pv 1) pe_str (nomark _)) (pe_and (pe_cmpR (op_eqD hr.units) (pe_len B (pv 2)) pe_int (nomark _)) (pe_and (pe_cal c_is_within hr pass0 (pa_cons (pe_ix ix_seq (pv 2) pe_int (fun _ _ => rfl)) (pa_cons pe_int (pa_cons (pe_op op_sub (pe_globI T.gMOST_CELLS) pe_int) pa_nil)))) (pe_one (pe_cal c_is_word hr pass0 (pa_cons (pe_ix ix_seq (pv 2) pe_int (fun _ _ => rfl)) (pa_cons (pe_globR T.gREMEMBERS) pa_nil))))))))))))))
theorem wk_need_parts {k : Nat} {sp : Sp}  {f : Addr} {fd : FuncData} {dvs : List V} (F : FnP K "need_parts" "need_parts" st_need_parts dvs f fd) (len : ∀ vs H Q E, sp vs H Q E → vs.length = 1) (ok : ∀ vs H Q E, sp vs H Q E → (t_need_parts K A E) { nx := fun _ H' => Q .non H', rt := Q } (start ["rows", "part", "is_right"] vs) H) : FnOk P w K mg base (L2.CX P w) (k + 1) f fd ["rows"] sp := by
  have nd := sc_need_parts.nd
  refine F.ok sc_need_parts len fun cdv A' outer s H vs Q E hr h => ⟨t_need_parts K A E, ?_, ok vs H Q E h⟩
  exact (pss_one (ps_for (passes_of rfl) rfl (pi_seq (pv 0)) (pg_tup rfl (pgs_cons (pg_name (i := 1) nd rfl (by first | exact Or.inl rfl | exact Or.inr rfl)) (pgs_cons (pg_name (i := 2) nd rfl (by first | exact Or.inl rfl | exact Or.inr rfl)) pgs_nil))) (pss_one (ps_if (pt_not (pt_val (pv 2))) (pss_one (ps_raiseX rfl T.xBadHouse hr (takes_of rfl rfl rfl rfl) (pa_cons (pv 1) pa_nil))) pss_nil))))
theorem wk_misfit_of {k : Nat} {sp : Sp}  {f : Addr} {fd : FuncData} {dvs : List V} (F : FnP K "misfit_of" "misfit_of" st_misfit_of dvs f fd) (len : ∀ vs H Q E, sp vs H Q E → vs.length = 1) (ok : ∀ vs H Q E, sp vs H Q E → (t_misfit_of K A E) { nx := fun _ H' => Q .non H', rt := Q } (start ["house", "word"] vs) H) : FnOk P w K mg base CX0 (k + 1) f fd ["house"] sp := by
  have nd := sc_misfit_of.nd
  refine F.ok sc_misfit_of len fun cdv A' outer s H vs Q E hr h => ⟨t_misfit_of K A E, PSs.nox ?_, ok vs H Q E h⟩
  exact (pss_cons (ps_set (i := 1) nd rfl (by first | exact Or.inl rfl | exact Or.inr rfl) (pe_fld (pv 0) rfl)) (pss_cons (ps_if (PW.pt (pw_or (PW.pt (pw_and (pt_cmpR (op_eqD hr.units) (pv 1) pe_str (nomark _)) (pw_and1 (pt_cmpR (op_neD hr.units) (pe_fld (pv 0) rfl) pe_str (nomark _))))) (pw_or1 (PW.pt (pw_and (pt_cmpR (op_eqD hr.units) (pv 1) pe_str (nomark _)) (pw_and1 (pt_cmpR op_notIn_seq (pe_fld (pv 0) rfl) (pe_slice sl_any (pe_globR T.gROOMS) po_none (po_some pe_int)) (by rfl)))))))) (pss_one (ps_ret pe_str)) pss_nil) (pss_cons (ps_if (PW.pt (pw_and (pt_cmpR (op_neD hr.units) (pe_fld (pv 0) rfl) pe_int (nomark _)) (pw_and1 (pt_cmpR (op_neD hr.units) (pv 1) pe_str (nomark _))))) (pss_one (ps_ret pe_str)) pss_nil) (pss_cons (ps_if (PW.pt (pw_and (pt_cmpR (op_neD hr.units) (pe_fld (pv 0) rfl) pe_str (nomark _)) (pw_and1 (pt_cmpR op_in_seq (pv 1) (pe_tup (pa_cons pe_str (pa_cons pe_str pa_nil))) (by rfl))))) (pss_one (ps_ret pe_str)) pss_nil) (pss_cons (ps_if (PW.pt (pw_and (pt_val (pe_fld (pv 0) rfl)) (pw_and1 (PW.pt (pw_or (pt_cmpR op_notIn_seq (pv 1) (pe_tup (pa_cons pe_str (pa_cons pe_str pa_nil))) (by rfl)) (pw_or1 (pt_cmpR (op_neD hr.units) (pe_fld (pv 0) rfl) pe_str (nomark _)))))))) (pss_one (ps_ret pe_str)) pss_nil) (pss_cons (ps_if (PW.pt (pw_or (PW.pt (pw_and (pt_cmpR (op_eqD hr.units) (pv 1) pe_str (nomark _)) (pw_and1 (pt_cmpR op_lt (pe_fld (pv 0) rfl) pe_int (nomark _))))) (pw_or1 (PW.pt (pw_and (pt_cmpR (op_eqD hr.units) (pv 1) pe_str (nomark _)) (pw_and1 (pt_cmpR op_ge (pe_ix ix_seq (pe_fld (pv 0) rfl) pe_int (fun _ _ => rfl)) (pe_fld (pv 0) rfl) (nomark _)))))))) (pss_one (ps_ret pe_str)) pss_nil) (pss_one (ps_ret pe_non))))))))
theorem wk_House___init__ {k : Nat} {sp : Sp} {sp_are_kinds : Sp} {sp_is_within : Sp} {sp_is_collector : Sp} {sp_is_word : Sp} {sp_is_word_lot : Sp} {sp_need_parts : Sp} {sp_fixed : Sp} {sp_misfit_of : Sp} (c_are_kinds : Cal P w K mg base CX0 k "are_kinds" ["value"] sp_are_kinds) (c_is_within : Cal P w K mg base CX0 k "is_within" ["value", "least", "most"] sp_is_within) (c_is_collector : Cal P w K mg base CX0 k "is_collector" ["value"] sp_is_collector) (c_is_word : Cal P w K mg base CX0 k "is_word" ["value", "words"] sp_is_word) (c_is_word_lot : Cal P w K mg base CX0 k "is_word_lot" ["value", "words"] sp_is_word_lot) (c_need_parts : Cal P w K mg base (L2.CX P w) k "need_parts" ["rows"] sp_need_parts) (c_fixed : Cal P w K mg base CX0 k "fixed" ["value"] sp_fixed) (c_misfit_of : Cal P w K mg base CX0 k "misfit_of" ["house"] sp_misfit_of) {f : Addr} {fd : FuncData} {dvs : List V} (F : FnP K "__init__" "House.__init__" st_House___init__ dvs f fd) (len : ∀ vs H Q E, sp vs H Q E → vs.length = 11) (ok : ∀ vs H Q E, sp vs H Q E → (t_House___init__ K A E sp_are_kinds sp_is_within sp_is_collector sp_is_word sp_is_word_lot sp_need_parts sp_fixed sp_misfit_of) { nx := fun _ H' => Q .non H', rt := Q } (start ["self", "cells", "kinds", "registers", "live", "rooms", "collector", "pace", "need", "slide", "asked", "rows", "part"] vs) H) : FnOk P w K mg base (L2.CX P w) (k + 1) f fd ["self", "cells", "kinds", "registers", "live", "rooms", "collector", "pace", "need", "slide", "asked"] sp := by
  have nd := sc_House___init__.nd
  refine F.ok sc_House___init__ len fun cdv A' outer s H vs Q E hr h => ⟨t_House___init__ K A E sp_are_kinds sp_is_within sp_is_collector sp_is_word sp_is_word_lot sp_need_parts sp_fixed sp_misfit_of, ?_, ok vs H Q E h⟩
  exact (pss_cons (ps_set (i := 11) nd rfl (by first | exact Or.inl rfl | exact Or.inr rfl) (pe_lst (pa_cons (pe_tup (pa_cons pe_str (pa_cons (pe_cal c_is_within hr pass0 (pa_cons (pv 1) (pa_cons pe_int (pa_cons (pe_globI T.gMOST_CELLS) pa_nil)))) pa_nil))) (pa_cons (pe_tup (pa_cons pe_str (pa_cons (pe_cal c_are_kinds hr pass0 (pa_cons (pv 2) pa_nil)) pa_nil))) pa_nil)))) (pss_cons (ps_expr (pe_bm PySem.F.plainAttrs_list PySem.F.slot_list_extend PySem.F.type_list_extend mt_extend (pv 11) (pa_cons (pe_lst (pa_cons (pe_tup (pa_cons pe_str (pa_cons (pe_cal c_is_within hr pass0 (pa_cons (pv 3) (pa_cons pe_int (pa_cons (pe_globI T.gMOST_REGISTERS) pa_nil)))) pa_nil))) (pa_cons (pe_tup (pa_cons pe_str (pa_cons (pe_cal c_is_within hr pass0 (pa_cons (pv 4) (pa_cons pe_int (pa_cons (pe_globI T.gMOST_CELLS) pa_nil)))) pa_nil))) pa_nil))) pa_nil))) (pss_cons (ps_expr (pe_bm PySem.F.plainAttrs_list PySem.F.slot_list_extend PySem.F.type_list_extend mt_extend (pv 11) (pa_cons (pe_lst (pa_cons (pe_tup (pa_cons pe_str (pa_cons (pe_cal c_is_word hr pass0 (pa_cons (pv 5) (pa_cons (pe_globR T.gROOMS) pa_nil))) pa_nil))) (pa_cons (pe_tup (pa_cons pe_str (pa_cons (pe_cal c_is_collector hr pass0 (pa_cons (pv 6) pa_nil)) pa_nil))) pa_nil))) pa_nil))) (pss_cons (ps_expr (pe_bm PySem.F.plainAttrs_list PySem.F.slot_list_append PySem.F.type_list_append mt_append (pv 11) (pa_cons (pe_tup (pa_cons pe_str (pa_cons (pe_or (pe_cmpR op_isN (pv 7) pe_non (nomark _)) (pe_one (pe_cal c_is_within hr pass0 (pa_cons (pv 7) (pa_cons pe_int (pa_cons (pe_globI T.gMOST_PACE) pa_nil)))))) pa_nil))) pa_nil))) (pss_cons (ps_expr (pe_bm PySem.F.plainAttrs_list PySem.F.slot_list_extend PySem.F.type_list_extend mt_extend (pv 11) (pa_cons (pe_lst (pa_cons (pe_tup (pa_cons pe_str (pa_cons (pe_cal c_is_word hr pass0 (pa_cons (pv 8) (pa_cons (pe_globR T.gNEEDS) pa_nil))) pa_nil))) (pa_cons (pe_tup (pa_cons pe_str (pa_cons (pe_isi B (pv 9) B.bool bt_bool) pa_nil))) pa_nil))) pa_nil))) (pss_cons (ps_expr (pe_bm PySem.F.plainAttrs_list PySem.F.slot_list_append PySem.F.type_list_append mt_append (pv 11) (pa_cons (pe_tup (pa_cons pe_str (pa_cons (pe_and (pe_cal c_is_word_lot hr pass0 (pa_cons (pv 10) (pa_cons (pe_globR T.gBREAKS) pa_nil))) (pe_one (pe_cmpR op_in_seq pe_str (pv 10) (by rfl)))) pa_nil))) pa_nil))) (pss_cons (ps_expr (pe_cal c_need_parts hr (passE (takes_of rfl rfl rfl rfl) fun _ _ _ _ h => h) (pa_cons (pv 11) pa_nil))) (pss_cons (ps_fld (pv 0) (pv 1) rfl) (pss_cons (ps_fld (pv 0) (pe_cal c_fixed hr pass0 (pa_cons (pv 2) pa_nil)) rfl) (pss_cons (ps_fld (pv 0) (pv 3) rfl) (pss_cons (ps_fld (pv 0) (pv 4) rfl) (pss_cons (ps_fld (pv 0) (pv 5) rfl) (pss_cons (ps_fld (pv 0) (pe_cal c_fixed hr pass0 (pa_cons (pv 6) pa_nil)) rfl) (pss_cons (ps_fld (pv 0) (pe_ix ix_seq (pe_fld (pv 0) rfl) pe_int (fun _ _ => rfl)) rfl) (pss_cons (ps_fld (pv 0) (pv 7) rfl) (pss_cons (ps_fld (pv 0) (pv 8) rfl) (pss_cons (ps_fld (pv 0) (pv 9) rfl) (pss_cons (ps_fld (pv 0) (pe_cal c_fixed hr pass0 (pa_cons (pv 10) pa_nil)) rfl) (pss_cons (ps_set (i := 12) nd rfl (by first | exact Or.inl rfl | exact Or.inr rfl) (pe_cal c_misfit_of hr pass0 (pa_cons (pv 0) pa_nil))) (pss_one (ps_if (pt_cmpR op_notN (pv 12) pe_non (nomark _)) (pss_one (ps_raiseX rfl T.xMisfit hr (takes_of rfl rfl rfl rfl) (pa_cons (pv 12) pa_nil))) pss_nil)))))))))))))))))))))
theorem wk_House___eq__ {k : Nat} {sp : Sp} {sp_House_row : Sp} (c_House_row : Met P w K mg base CX0 k A.cHouse "row" ["self"] sp_House_row) {f : Addr} {fd : FuncData} {dvs : List V} (F : FnP K "__eq__" "House.__eq__" st_House___eq__ dvs f fd) (len : ∀ vs H Q E, sp vs H Q E → vs.length = 2) (ok : ∀ vs H Q E, sp vs H Q E → (t_House___eq__ K A E sp_House_row) { nx := fun _ H' => Q .non H', rt := Q } (start ["self", "other"] vs) H) : FnOk P w K mg base CX0 (k + 1) f fd ["self", "other"] sp := by
  have nd := sc_House___eq__.nd
  refine F.ok sc_House___eq__ len fun cdv A' outer s H vs Q E hr h => ⟨t_House___eq__ K A E sp_House_row, PSs.nox ?_, ok vs H Q E h⟩
  exact (pss_cons (ps_if (pt_not (pt_val (pe_isiC B (pv 1) T.gHouse))) (pss_one (ps_ret pe_bl)) pss_nil) (pss_one (ps_ret (pe_cmpR (op_eqD hr.units) (pe_met0 c_House_row T.clHouse hr pass0 (pv 0)) (pe_met0 c_House_row T.clHouse hr pass0 (pv 1)) (nomark _)))))
theorem wk_House_row {k : Nat} {sp : Sp}  {f : Addr} {fd : FuncData} {dvs : List V} (F : FnP K "row" "House.row" st_House_row dvs f fd) (len : ∀ vs H Q E, sp vs H Q E → vs.length = 1) (ok : ∀ vs H Q E, sp vs H Q E → (t_House_row K A E) { nx := fun _ H' => Q .non H', rt := Q } (start ["self", "first"] vs) H) : FnOk P w K mg base CX0 (k + 1) f fd ["self"] sp := by
  have nd := sc_House_row.nd
  refine F.ok sc_House_row len fun cdv A' outer s H vs Q E hr h => ⟨t_House_row K A E, PSs.nox ?_, ok vs H Q E h⟩
  exact (pss_cons (ps_set (i := 1) nd rfl (by first | exact Or.inl rfl | exact Or.inr rfl) (pe_tup (pa_cons (pe_fld (pv 0) rfl) (pa_cons (pe_fld (pv 0) rfl) (pa_cons (pe_fld (pv 0) rfl) (pa_cons (pe_fld (pv 0) rfl) (pa_cons (pe_fld (pv 0) rfl) (pa_cons (pe_fld (pv 0) rfl) pa_nil)))))))) (pss_one (ps_ret (pe_tup (pa_star (pv 1) (pa_cons (pe_fld (pv 0) rfl) (pa_cons (pe_fld (pv 0) rfl) (pa_cons (pe_fld (pv 0) rfl) (pa_cons (pe_fld (pv 0) rfl) pa_nil)))))))))
theorem wk_need_house {k : Nat} {sp : Sp}  {f : Addr} {fd : FuncData} {dvs : List V} (F : FnP K "need_house" "need_house" st_need_house dvs f fd) (len : ∀ vs H Q E, sp vs H Q E → vs.length = 2) (ok : ∀ vs H Q E, sp vs H Q E → (t_need_house K A E) { nx := fun _ H' => Q .non H', rt := Q } (start ["value", "part"] vs) H) : FnOk P w K mg base (L2.CX P w) (k + 1) f fd ["value", "part"] sp := by
  have nd := sc_need_house.nd
  refine F.ok sc_need_house len fun cdv A' outer s H vs Q E hr h => ⟨t_need_house K A E, ?_, ok vs H Q E h⟩
  exact (pss_one (ps_if (pt_not (pt_val (pe_isiC B (pv 0) T.gHouse))) (pss_one (ps_raiseX rfl T.xBadHouse hr (takes_of rfl rfl rfl rfl) (pa_cons (pv 1) pa_nil))) pss_nil))
end
end Nv
set_option Elab.async false
set_option linter.all false
set_option maxRecDepth 100000
set_option maxHeartbeats 4000000
namespace Nv
open PySem PySem.Spec PyProof.Rows L2 StX NvZ
abbrev st_is_figure : Stmt := PySem.Challenge.pw_nevergone_k91_texts_of_houses_written_an.main.body.getD 47 (.Pass ⟨0, 0, 0, 0⟩)
theorem sc_is_figure : FnScope ["word", "least", "most", "sign"] ["word", "least", "most"] (defScope st_is_figure) := ⟨rfl, rfl, rfl, by decide +kernel, rfl, by decide +kernel, by decide +kernel⟩
abbrev st_Scan___init__ : Stmt := (C8.clsBody (PySem.Challenge.pw_nevergone_k91_texts_of_houses_written_an.main.body.getD 48 (.Pass ⟨0, 0, 0, 0⟩))).getD 0 (.Pass ⟨0, 0, 0, 0⟩)
theorem sc_Scan___init__ : FnScope ["self", "lines"] ["self", "lines"] (defScope st_Scan___init__) := ⟨rfl, rfl, rfl, by decide +kernel, rfl, by decide +kernel, by decide +kernel⟩
abbrev st_Scan_is_over : Stmt := (C8.clsBody (PySem.Challenge.pw_nevergone_k91_texts_of_houses_written_an.main.body.getD 48 (.Pass ⟨0, 0, 0, 0⟩))).getD 1 (.Pass ⟨0, 0, 0, 0⟩)
theorem sc_Scan_is_over : FnScope ["self"] ["self"] (defScope st_Scan_is_over) := ⟨rfl, rfl, rfl, by decide +kernel, rfl, by decide +kernel, by decide +kernel⟩
abbrev st_Scan_ahead : Stmt := (C8.clsBody (PySem.Challenge.pw_nevergone_k91_texts_of_houses_written_an.main.body.getD 48 (.Pass ⟨0, 0, 0, 0⟩))).getD 2 (.Pass ⟨0, 0, 0, 0⟩)
theorem sc_Scan_ahead : FnScope ["self"] ["self"] (defScope st_Scan_ahead) := ⟨rfl, rfl, rfl, by decide +kernel, rfl, by decide +kernel, by decide +kernel⟩
abbrev st_Scan_stop : Stmt := (C8.clsBody (PySem.Challenge.pw_nevergone_k91_texts_of_houses_written_an.main.body.getD 48 (.Pass ⟨0, 0, 0, 0⟩))).getD 3 (.Pass ⟨0, 0, 0, 0⟩)
theorem sc_Scan_stop : FnScope ["self"] ["self"] (defScope st_Scan_stop) := ⟨rfl, rfl, rfl, by decide +kernel, rfl, by decide +kernel, by decide +kernel⟩
abbrev st_Scan_take_of : Stmt := (C8.clsBody (PySem.Challenge.pw_nevergone_k91_texts_of_houses_written_an.main.body.getD 48 (.Pass ⟨0, 0, 0, 0⟩))).getD 4 (.Pass ⟨0, 0, 0, 0⟩)
theorem sc_Scan_take_of : FnScope ["self", "words", "word"] ["self", "words"] (defScope st_Scan_take_of) := ⟨rfl, rfl, rfl, by decide +kernel, rfl, by decide +kernel, by decide +kernel⟩
abbrev st_Scan_take_number : Stmt := (C8.clsBody (PySem.Challenge.pw_nevergone_k91_texts_of_houses_written_an.main.body.getD 48 (.Pass ⟨0, 0, 0, 0⟩))).getD 5 (.Pass ⟨0, 0, 0, 0⟩)
theorem sc_Scan_take_number : FnScope ["self", "least", "most", "word"] ["self", "least", "most"] (defScope st_Scan_take_number) := ⟨rfl, rfl, rfl, by decide +kernel, rfl, by decide +kernel, by decide +kernel⟩
abbrev st_Scan_end_line : Stmt := (C8.clsBody (PySem.Challenge.pw_nevergone_k91_texts_of_houses_written_an.main.body.getD 48 (.Pass ⟨0, 0, 0, 0⟩))).getD 7 (.Pass ⟨0, 0, 0, 0⟩)
theorem sc_Scan_end_line : FnScope ["self"] ["self"] (defScope st_Scan_end_line) := ⟨rfl, rfl, rfl, by decide +kernel, rfl, by decide +kernel, by decide +kernel⟩
abbrev st_Scan_finish : Stmt := (C8.clsBody (PySem.Challenge.pw_nevergone_k91_texts_of_houses_written_an.main.body.getD 48 (.Pass ⟨0, 0, 0, 0⟩))).getD 8 (.Pass ⟨0, 0, 0, 0⟩)
theorem sc_Scan_finish : FnScope ["self"] ["self"] (defScope st_Scan_finish) := ⟨rfl, rfl, rfl, by decide +kernel, rfl, by decide +kernel, by decide +kernel⟩
abbrev st_scan_of : Stmt := PySem.Challenge.pw_nevergone_k91_texts_of_houses_written_an.main.body.getD 49 (.Pass ⟨0, 0, 0, 0⟩)
theorem sc_scan_of : FnScope ["text", "line"] ["text"] (defScope st_scan_of) := ⟨rfl, rfl, rfl, by decide +kernel, rfl, by decide +kernel, by decide +kernel⟩
abbrev st_kind_words : Stmt := PySem.Challenge.pw_nevergone_k91_texts_of_houses_written_an.main.body.getD 55 (.Pass ⟨0, 0, 0, 0⟩)
theorem sc_kind_words : FnScope ["kind", "found", "link", "one"] ["kind"] (defScope st_kind_words) := ⟨rfl, rfl, rfl, by decide +kernel, rfl, by decide +kernel, by decide +kernel⟩
abbrev st_collector_words : Stmt := PySem.Challenge.pw_nevergone_k91_texts_of_houses_written_an.main.body.getD 56 (.Pass ⟨0, 0, 0, 0⟩)
theorem sc_collector_words : FnScope ["collector", "word", "rest", "part"] ["collector"] (defScope st_collector_words) := ⟨rfl, rfl, rfl, by decide +kernel, rfl, by decide +kernel, by decide +kernel⟩
abbrev st_house_rows : Stmt := PySem.Challenge.pw_nevergone_k91_texts_of_houses_written_an.main.body.getD 57 (.Pass ⟨0, 0, 0, 0⟩)
theorem sc_house_rows : FnScope ["house", "rows", "kind"] ["house"] (defScope st_house_rows) := ⟨rfl, rfl, rfl, by decide +kernel, rfl, by decide +kernel, by decide +kernel⟩
abbrev st_house_text : Stmt := PySem.Challenge.pw_nevergone_k91_texts_of_houses_written_an.main.body.getD 58 (.Pass ⟨0, 0, 0, 0⟩)
theorem sc_house_text : FnScope ["house", "row"] ["house"] (defScope st_house_text) := ⟨rfl, rfl, rfl, by decide +kernel, rfl, by decide +kernel, by decide +kernel⟩
abbrev st_taken_after : Stmt := PySem.Challenge.pw_nevergone_k91_texts_of_houses_written_an.main.body.getD 59 (.Pass ⟨0, 0, 0, 0⟩)
theorem sc_taken_after : FnScope ["scan", "word", "least", "most", "found"] ["scan", "word", "least", "most"] (defScope st_taken_after) := ⟨rfl, rfl, rfl, by decide +kernel, rfl, by decide +kernel, by decide +kernel⟩
abbrev st_taken_word : Stmt := PySem.Challenge.pw_nevergone_k91_texts_of_houses_written_an.main.body.getD 60 (.Pass ⟨0, 0, 0, 0⟩)
theorem sc_taken_word : FnScope ["scan", "word", "words", "found"] ["scan", "word", "words"] (defScope st_taken_word) := ⟨rfl, rfl, rfl, by decide +kernel, rfl, by decide +kernel, by decide +kernel⟩
abbrev st_taken_lot : Stmt := PySem.Challenge.pw_nevergone_k91_texts_of_houses_written_an.main.body.getD 61 (.Pass ⟨0, 0, 0, 0⟩)
theorem sc_taken_lot : FnScope ["scan", "words", "found", "word"] ["scan", "words"] (defScope st_taken_lot) := ⟨rfl, rfl, rfl, by decide +kernel, rfl, by decide +kernel, by decide +kernel⟩
abbrev st_taken_link : Stmt := PySem.Challenge.pw_nevergone_k91_texts_of_houses_written_an.main.body.getD 62 (.Pass ⟨0, 0, 0, 0⟩)
theorem sc_taken_link : FnScope ["scan", "many", "found"] ["scan", "many"] (defScope st_taken_link) := ⟨rfl, rfl, rfl, by decide +kernel, rfl, by decide +kernel, by decide +kernel⟩
abbrev st_taken_kind : Stmt := PySem.Challenge.pw_nevergone_k91_texts_of_houses_written_an.main.body.getD 63 (.Pass ⟨0, 0, 0, 0⟩)
theorem sc_taken_kind : FnScope ["scan", "many", "size", "links"] ["scan", "many"] (defScope st_taken_kind) := ⟨rfl, rfl, rfl, by decide +kernel, rfl, by decide +kernel, by decide +kernel⟩
abbrev st_kinds_ahead : Stmt := PySem.Challenge.pw_nevergone_k91_texts_of_houses_written_an.main.body.getD 64 (.Pass ⟨0, 0, 0, 0⟩)
theorem sc_kinds_ahead : FnScope ["scan", "found", "line"] ["scan"] (defScope st_kinds_ahead) := ⟨rfl, rfl, rfl, by decide +kernel, rfl, by decide +kernel, by decide +kernel⟩
abbrev st_taken_kinds : Stmt := PySem.Challenge.pw_nevergone_k91_texts_of_houses_written_an.main.body.getD 65 (.Pass ⟨0, 0, 0, 0⟩)
theorem sc_taken_kinds : FnScope ["scan", "many", "found"] ["scan"] (defScope st_taken_kinds) := ⟨rfl, rfl, rfl, by decide +kernel, rfl, by decide +kernel, by decide +kernel⟩
abbrev st_taken_collector : Stmt := PySem.Challenge.pw_nevergone_k91_texts_of_houses_written_an.main.body.getD 66 (.Pass ⟨0, 0, 0, 0⟩)
theorem sc_taken_collector : FnScope ["scan", "found"] ["scan"] (defScope st_taken_collector) := ⟨rfl, rfl, rfl, by decide +kernel, rfl, by decide +kernel, by decide +kernel⟩
abbrev st_taken_count : Stmt := PySem.Challenge.pw_nevergone_k91_texts_of_houses_written_an.main.body.getD 67 (.Pass ⟨0, 0, 0, 0⟩)
theorem sc_taken_count : FnScope ["scan"] ["scan"] (defScope st_taken_count) := ⟨rfl, rfl, rfl, by decide +kernel, rfl, by decide +kernel, by decide +kernel⟩
abbrev st_taken_pace : Stmt := PySem.Challenge.pw_nevergone_k91_texts_of_houses_written_an.main.body.getD 68 (.Pass ⟨0, 0, 0, 0⟩)
theorem sc_taken_pace : FnScope ["scan", "found"] ["scan"] (defScope st_taken_pace) := ⟨rfl, rfl, rfl, by decide +kernel, rfl, by decide +kernel, by decide +kernel⟩
abbrev st_taken_asked : Stmt := PySem.Challenge.pw_nevergone_k91_texts_of_houses_written_an.main.body.getD 69 (.Pass ⟨0, 0, 0, 0⟩)
theorem sc_taken_asked : FnScope ["scan", "found", "word"] ["scan"] (defScope st_taken_asked) := ⟨rfl, rfl, rfl, by decide +kernel, rfl, by decide +kernel, by decide +kernel⟩
abbrev st_taken_house : Stmt := PySem.Challenge.pw_nevergone_k91_texts_of_houses_written_an.main.body.getD 70 (.Pass ⟨0, 0, 0, 0⟩)
theorem sc_taken_house : FnScope ["scan", "cells", "kinds", "registers", "live", "rooms", "collector", "pace", "need", "slide", "asked"] ["scan"] (defScope st_taken_house) := ⟨rfl, rfl, rfl, by decide +kernel, rfl, by decide +kernel, by decide +kernel⟩
abbrev st_read_house : Stmt := PySem.Challenge.pw_nevergone_k91_texts_of_houses_written_an.main.body.getD 71 (.Pass ⟨0, 0, 0, 0⟩)
theorem sc_read_house : FnScope ["text"] ["text"] (defScope st_read_house) := ⟨rfl, rfl, rfl, by decide +kernel, rfl, by decide +kernel, by decide +kernel⟩
section
variable {A : Ads} {P : Program} {w : World} {K : PySem.W.Frag} {mg : Str → Option Value} {base : Heap} (B : Blt mg) (BH : BltH mg) (T : Tx A P w K mg)
include B BH T
theorem wk_is_figure {k : Nat} {sp : Sp}  {f : Addr} {fd : FuncData} {dvs : List V} (F : FnP K "is_figure" "is_figure" st_is_figure dvs f fd) (len : ∀ vs H Q E, sp vs H Q E → vs.length = 3) (ok : ∀ vs H Q E, sp vs H Q E → (t_is_figure K A E) { nx := fun _ H' => Q .non H', rt := Q } (start ["word", "least", "most", "sign"] vs) H) : FnOk P w K mg base CX0 (k + 1) f fd ["word", "least", "most"] sp := by
  have nd := sc_is_figure.nd
  refine F.ok sc_is_figure len fun cdv A' outer s H vs Q E hr h => ⟨t_is_figure K A E, PSs.nox ?_, ok vs H Q E h⟩
  exact (pss_cons (ps_if (PW.pt (pw_or (pt_cmpR op_isN (pv 0) pe_non (nomark _)) (pw_or (pt_not (pt_chain op_le op_le pe_int (pe_len B (pv 0)) pe_int)) (pw_or1 (pt_not (pt_val (pe_all B rfl (pe_lc (own := [("sign", 3)]) (g := (gName 3)) (tt := tYes) rfl nd (pi_seq (pv 0)) (blkOk_by (N := ["word", "least", "most", "sign"]) (sc := defScope st_is_figure) (by decide +kernel)) (fun _ _ _ _ _ => (pg_name (i := 3) nd rfl (by first | exact Or.inl rfl | exact Or.inr rfl))) (fun _ _ _ _ _ => pts_nil) (fun _ _ _ _ _ => (pe_cmpR op_in_sign (pv 3) (pe_globS T.gFIGURES) (by rfl))))))))))) (pss_one (ps_ret pe_bl)) pss_nil) (pss_one (ps_ret (pe_and (pe_or (pe_cmpR (op_eqD hr.units) (pv 0) pe_str (nomark _)) (pe_one (pe_cmpR (op_neD hr.units) (pe_ix ix_seq (pv 0) pe_int (fun _ _ => rfl)) pe_str (nomark _)))) (pe_one (pe_chain op_le op_le (pv 1) (pe_intS B (pv 0)) (pv 2)))))))
theorem wk_Scan___init__ {k : Nat} {sp : Sp}  {f : Addr} {fd : FuncData} {dvs : List V} (F : FnP K "__init__" "Scan.__init__" st_Scan___init__ dvs f fd) (len : ∀ vs H Q E, sp vs H Q E → vs.length = 2) (ok : ∀ vs H Q E, sp vs H Q E → (t_Scan___init__ K A E) { nx := fun _ H' => Q .non H', rt := Q } (start ["self", "lines"] vs) H) : FnOk P w K mg base CX0 (k + 1) f fd ["self", "lines"] sp := by
  have nd := sc_Scan___init__.nd
  refine F.ok sc_Scan___init__ len fun cdv A' outer s H vs Q E hr h => ⟨t_Scan___init__ K A E, PSs.nox ?_, ok vs H Q E h⟩
  exact (pss_cons (ps_fld (pv 0) (pv 1) rfl) (pss_cons (ps_fld (pv 0) pe_int rfl) (pss_one (ps_fld (pv 0) pe_int rfl))))
theorem wk_Scan_is_over {k : Nat} {sp : Sp}  {f : Addr} {fd : FuncData} {dvs : List V} (F : FnP K "is_over" "Scan.is_over" st_Scan_is_over dvs f fd) (len : ∀ vs H Q E, sp vs H Q E → vs.length = 1) (ok : ∀ vs H Q E, sp vs H Q E → (t_Scan_is_over K A E) { nx := fun _ H' => Q .non H', rt := Q } (start ["self"] vs) H) : FnOk P w K mg base CX0 (k + 1) f fd ["self"] sp := by
  have nd := sc_Scan_is_over.nd
  refine F.ok sc_Scan_is_over len fun cdv A' outer s H vs Q E hr h => ⟨t_Scan_is_over K A E, PSs.nox ?_, ok vs H Q E h⟩
  exact (pss_one (ps_ret (pe_cmpR (op_eqD hr.units) (pe_fld (pv 0) rfl) (pe_len B (pe_fld (pv 0) rfl)) (nomark _))))
theorem wk_Scan_ahead {k : Nat} {sp : Sp} {sp_Scan_is_over : Sp} (c_Scan_is_over : Met P w K mg base CX0 k A.cScan "is_over" ["self"] sp_Scan_is_over) {f : Addr} {fd : FuncData} {dvs : List V} (F : FnP K "ahead" "Scan.ahead" st_Scan_ahead dvs f fd) (len : ∀ vs H Q E, sp vs H Q E → vs.length = 1) (ok : ∀ vs H Q E, sp vs H Q E → (t_Scan_ahead K A E sp_Scan_is_over) { nx := fun _ H' => Q .non H', rt := Q } (start ["self"] vs) H) : FnOk P w K mg base CX0 (k + 1) f fd ["self"] sp := by
  have nd := sc_Scan_ahead.nd
  refine F.ok sc_Scan_ahead len fun cdv A' outer s H vs Q E hr h => ⟨t_Scan_ahead K A E sp_Scan_is_over, PSs.nox ?_, ok vs H Q E h⟩
  exact (pss_cons (ps_if (PW.pt (pw_or (pt_val (pe_met0 c_Scan_is_over T.clScan hr pass0 (pv 0))) (pw_or1 (pt_cmpR (op_eqD hr.units) (pe_fld (pv 0) rfl) (pe_len B (pe_ix ix_seq (pe_fld (pv 0) rfl) (pe_fld (pv 0) rfl) (fun _ _ => rfl))) (nomark _))))) (pss_one (ps_ret pe_non)) pss_nil) (pss_one (ps_ret (pe_ix ix_seq (pe_ix ix_seq (pe_fld (pv 0) rfl) (pe_fld (pv 0) rfl) (fun _ _ => rfl)) (pe_fld (pv 0) rfl) (fun _ _ => rfl)))))
theorem wk_Scan_stop {k : Nat} {sp : Sp}  {f : Addr} {fd : FuncData} {dvs : List V} (F : FnP K "stop" "Scan.stop" st_Scan_stop dvs f fd) (len : ∀ vs H Q E, sp vs H Q E → vs.length = 1) (ok : ∀ vs H Q E, sp vs H Q E → (t_Scan_stop K A E) { nx := fun _ H' => Q .non H', rt := Q } (start ["self"] vs) H) : FnOk P w K mg base (L2.CX P w) (k + 1) f fd ["self"] sp := by
  have nd := sc_Scan_stop.nd
  refine F.ok sc_Scan_stop len fun cdv A' outer s H vs Q E hr h => ⟨t_Scan_stop K A E, ?_, ok vs H Q E h⟩
  exact (pss_one (ps_raiseX rfl T.xBadText hr (takes_of rfl rfl rfl rfl) (pa_cons (pe_fld (pv 0) rfl) (pa_cons (pe_fld (pv 0) rfl) pa_nil))))
theorem wk_Scan_take_of {k : Nat} {sp : Sp} {sp_Scan_ahead : Sp} {sp_Scan_stop : Sp} (c_Scan_ahead : Met P w K mg base CX0 k A.cScan "ahead" ["self"] sp_Scan_ahead) (c_Scan_stop : Met P w K mg base (L2.CX P w) k A.cScan "stop" ["self"] sp_Scan_stop) {f : Addr} {fd : FuncData} {dvs : List V} (F : FnP K "take_of" "Scan.take_of" st_Scan_take_of dvs f fd) (len : ∀ vs H Q E, sp vs H Q E → vs.length = 2) (ok : ∀ vs H Q E, sp vs H Q E → (t_Scan_take_of K A E sp_Scan_ahead sp_Scan_stop) { nx := fun _ H' => Q .non H', rt := Q } (start ["self", "words", "word"] vs) H) : FnOk P w K mg base (L2.CX P w) (k + 1) f fd ["self", "words"] sp := by
  have nd := sc_Scan_take_of.nd
  refine F.ok sc_Scan_take_of len fun cdv A' outer s H vs Q E hr h => ⟨t_Scan_take_of K A E sp_Scan_ahead sp_Scan_stop, ?_, ok vs H Q E h⟩
  exact (pss_cons (ps_set (i := 2) nd rfl (by first | exact Or.inl rfl | exact Or.inr rfl) (pe_met0 c_Scan_ahead T.clScan hr pass0 (pv 0))) (pss_cons (ps_if (PW.pt (pw_or (pt_cmpR op_isN (pv 2) pe_non (nomark _)) (pw_or1 (pt_cmpR op_notIn_seq (pv 2) (pv 1) (by rfl))))) (pss_one (ps_expr (pe_met0 c_Scan_stop T.clScan hr (passE (takes_of rfl rfl rfl rfl) fun _ _ _ _ h => h) (pv 0)))) pss_nil) (pss_cons (ps_fldaug (pv 0) pe_int in_add) (pss_one (ps_ret (pv 2))))))
theorem wk_Scan_take_number {k : Nat} {sp : Sp} {sp_Scan_ahead : Sp} {sp_is_figure : Sp} {sp_Scan_stop : Sp} (c_Scan_ahead : Met P w K mg base CX0 k A.cScan "ahead" ["self"] sp_Scan_ahead) (c_is_figure : Cal P w K mg base CX0 k "is_figure" ["word", "least", "most"] sp_is_figure) (c_Scan_stop : Met P w K mg base (L2.CX P w) k A.cScan "stop" ["self"] sp_Scan_stop) {f : Addr} {fd : FuncData} {dvs : List V} (F : FnP K "take_number" "Scan.take_number" st_Scan_take_number dvs f fd) (len : ∀ vs H Q E, sp vs H Q E → vs.length = 3) (ok : ∀ vs H Q E, sp vs H Q E → (t_Scan_take_number K A E sp_Scan_ahead sp_is_figure sp_Scan_stop) { nx := fun _ H' => Q .non H', rt := Q } (start ["self", "least", "most", "word"] vs) H) : FnOk P w K mg base (L2.CX P w) (k + 1) f fd ["self", "least", "most"] sp := by
  have nd := sc_Scan_take_number.nd
  refine F.ok sc_Scan_take_number len fun cdv A' outer s H vs Q E hr h => ⟨t_Scan_take_number K A E sp_Scan_ahead sp_is_figure sp_Scan_stop, ?_, ok vs H Q E h⟩
  exact (pss_cons (ps_set (i := 3) nd rfl (by first | exact Or.inl rfl | exact Or.inr rfl) (pe_met0 c_Scan_ahead T.clScan hr pass0 (pv 0))) (pss_cons (ps_if (pt_not (pt_val (pe_cal c_is_figure hr pass0 (pa_cons (pv 3) (pa_cons (pv 1) (pa_cons (pv 2) pa_nil)))))) (pss_one (ps_expr (pe_met0 c_Scan_stop T.clScan hr (passE (takes_of rfl rfl rfl rfl) fun _ _ _ _ h => h) (pv 0)))) pss_nil) (pss_cons (ps_fldaug (pv 0) pe_int in_add) (pss_one (ps_ret (pe_intS B (pv 3)))))))
theorem wk_Scan_end_line {k : Nat} {sp : Sp} {sp_Scan_ahead : Sp} {sp_Scan_is_over : Sp} {sp_Scan_stop : Sp} (c_Scan_ahead : Met P w K mg base CX0 k A.cScan "ahead" ["self"] sp_Scan_ahead) (c_Scan_is_over : Met P w K mg base CX0 k A.cScan "is_over" ["self"] sp_Scan_is_over) (c_Scan_stop : Met P w K mg base (L2.CX P w) k A.cScan "stop" ["self"] sp_Scan_stop) {f : Addr} {fd : FuncData} {dvs : List V} (F : FnP K "end_line" "Scan.end_line" st_Scan_end_line dvs f fd) (len : ∀ vs H Q E, sp vs H Q E → vs.length = 1) (ok : ∀ vs H Q E, sp vs H Q E → (t_Scan_end_line K A E sp_Scan_ahead sp_Scan_is_over sp_Scan_stop) { nx := fun _ H' => Q .non H', rt := Q } (start ["self"] vs) H) : FnOk P w K mg base (L2.CX P w) (k + 1) f fd ["self"] sp := by
  have nd := sc_Scan_end_line.nd
  refine F.ok sc_Scan_end_line len fun cdv A' outer s H vs Q E hr h => ⟨t_Scan_end_line K A E sp_Scan_ahead sp_Scan_is_over sp_Scan_stop, ?_, ok vs H Q E h⟩
  exact (pss_cons (ps_if (PW.pt (pw_or (pt_cmpR op_notN (pe_met0 c_Scan_ahead T.clScan hr pass0 (pv 0)) pe_non (nomark _)) (pw_or1 (pt_val (pe_met0 c_Scan_is_over T.clScan hr pass0 (pv 0)))))) (pss_one (ps_expr (pe_met0 c_Scan_stop T.clScan hr (passE (takes_of rfl rfl rfl rfl) fun _ _ _ _ h => h) (pv 0)))) pss_nil) (pss_cons (ps_fldaug (pv 0) pe_int in_add) (pss_one (ps_fld (pv 0) pe_int rfl))))
theorem wk_Scan_finish {k : Nat} {sp : Sp} {sp_Scan_is_over : Sp} {sp_Scan_stop : Sp} (c_Scan_is_over : Met P w K mg base CX0 k A.cScan "is_over" ["self"] sp_Scan_is_over) (c_Scan_stop : Met P w K mg base (L2.CX P w) k A.cScan "stop" ["self"] sp_Scan_stop) {f : Addr} {fd : FuncData} {dvs : List V} (F : FnP K "finish" "Scan.finish" st_Scan_finish dvs f fd) (len : ∀ vs H Q E, sp vs H Q E → vs.length = 1) (ok : ∀ vs H Q E, sp vs H Q E → (t_Scan_finish K A E sp_Scan_is_over sp_Scan_stop) { nx := fun _ H' => Q .non H', rt := Q } (start ["self"] vs) H) : FnOk P w K mg base (L2.CX P w) (k + 1) f fd ["self"] sp := by
  have nd := sc_Scan_finish.nd
  refine F.ok sc_Scan_finish len fun cdv A' outer s H vs Q E hr h => ⟨t_Scan_finish K A E sp_Scan_is_over sp_Scan_stop, ?_, ok vs H Q E h⟩
  exact (pss_one (ps_if (pt_not (pt_val (pe_met0 c_Scan_is_over T.clScan hr pass0 (pv 0)))) (pss_one (ps_expr (pe_met0 c_Scan_stop T.clScan hr (passE (takes_of rfl rfl rfl rfl) fun _ _ _ _ h => h) (pv 0)))) pss_nil))
theorem wk_scan_of {k : Nat} {sp : Sp} {sp_Scan___init__ : Sp} (c_Scan___init__ : Ini P w K mg base CX0 k A.cScan ["self", "lines"] sp_Scan___init__) {f : Addr} {fd : FuncData} {dvs : List V} (F : FnP K "scan_of" "scan_of" st_scan_of dvs f fd) (len : ∀ vs H Q E, sp vs H Q E → vs.length = 1) (ok : ∀ vs H Q E, sp vs H Q E → (t_scan_of K A E sp_Scan___init__) { nx := fun _ H' => Q .non H', rt := Q } (start ["text", "line"] vs) H) : FnOk P w K mg base (L2.CX P w) (k + 1) f fd ["text"] sp := by
  have nd := sc_scan_of.nd
  refine F.ok sc_scan_of len fun cdv A' outer s H vs Q E hr h => ⟨t_scan_of K A E sp_Scan___init__, ?_, ok vs H Q E h⟩
  exact (pss_cons (ps_if (pt_not (pt_val (pe_isi B (pv 0) B.str bt_str))) (pss_one (ps_raiseX rfl T.xBadText hr (takes_of rfl rfl rfl rfl) (pa_cons pe_int (pa_cons pe_int pa_nil)))) pss_nil) (pss_one (ps_ret (pe_ini c_Scan___init__ hr pass0 T.gScan (pa_cons (pe_lc (own := [("line", 1)]) (g := (gName 1)) (tt := tYes) rfl nd (pi_seq (pe_split (pv 0) pe_str)) (blkOk_by (N := ["text", "line"]) (sc := defScope st_scan_of) (by decide +kernel)) (fun _ _ _ _ _ => (pg_name (i := 1) nd rfl (by first | exact Or.inl rfl | exact Or.inr rfl))) (fun _ _ _ _ _ => pts_nil) (fun _ _ _ _ _ => (pe_split (pv 1) pe_str))) pa_nil)))))
theorem wk_kind_words {k : Nat} {sp : Sp}  {f : Addr} {fd : FuncData} {dvs : List V} (F : FnP K "kind_words" "kind_words" st_kind_words dvs f fd) (len : ∀ vs H Q E, sp vs H Q E → vs.length = 1) (ok : ∀ vs H Q E, sp vs H Q E → (t_kind_words K A E) { nx := fun _ H' => Q .non H', rt := Q } (start ["kind", "found", "link", "one"] vs) H) : FnOk P w K mg base CX0 (k + 1) f fd ["kind"] sp := by
  have nd := sc_kind_words.nd
  refine F.ok sc_kind_words len fun cdv A' outer s H vs Q E hr h => ⟨t_kind_words K A E, PSs.nox ?_, ok vs H Q E h⟩
  exact (pss_cons (ps_set (i := 1) nd rfl (by first | exact Or.inl rfl | exact Or.inr rfl) (pe_lst (pa_cons pe_str (pa_cons (pe_strI B (pe_ix ix_seq (pv 0) pe_int (fun _ _ => rfl))) pa_nil)))) (pss_cons (ps_for PassesOwn.never rfl (pi_seq (pe_ix ix_seq (pv 0) pe_int (fun _ _ => rfl))) (pg_name (i := 2) nd rfl (by first | exact Or.inl rfl | exact Or.inr rfl)) (pss_one (ps_expr (pe_bm PySem.F.plainAttrs_list PySem.F.slot_list_extend PySem.F.type_list_extend mt_extend (pv 1) (pa_cons (pe_lst (pa_cons pe_str (pa_star (pe_lc (own := [("one", 3)]) (g := (gName 3)) (tt := tYes) rfl nd (pi_seq (pv 2)) (blkOk_by (N := ["kind", "found", "link", "one"]) (sc := defScope st_kind_words) (by decide +kernel)) (fun _ _ _ _ _ => (pg_name (i := 3) nd rfl (by first | exact Or.inl rfl | exact Or.inr rfl))) (fun _ _ _ _ _ => pts_nil) (fun _ _ _ _ _ => (pe_strI B (pv 3)))) pa_nil))) pa_nil))))) (pss_one (ps_ret (pv 1)))))
theorem wk_collector_words {k : Nat} {sp : Sp}  {f : Addr} {fd : FuncData} {dvs : List V} (F : FnP K "collector_words" "collector_words" st_collector_words dvs f fd) (len : ∀ vs H Q E, sp vs H Q E → vs.length = 1) (ok : ∀ vs H Q E, sp vs H Q E → (t_collector_words K A E) { nx := fun _ H' => Q .non H', rt := Q } (start ["collector", "word", "rest", "part"] vs) H) : FnOk P w K mg base CX0 (k + 1) f fd ["collector"] sp := by
  have nd := sc_collector_words.nd
  refine F.ok sc_collector_words len fun cdv A' outer s H vs Q E hr h => ⟨t_collector_words K A E, PSs.nox ?_, ok vs H Q E h⟩
  exact (pss_cons (ps_set (i := 1) nd rfl (by first | exact Or.inl rfl | exact Or.inr rfl) (pe_ix ix_seq (pv 0) pe_int (fun _ _ => rfl))) (pss_cons (ps_if (pt_cmpR (op_eqD hr.units) (pv 1) pe_str (nomark _)) (pss_one (ps_ret (pe_lst (pa_cons pe_str (pa_cons (pv 1) (pa_star (pe_ix ix_seq (pv 0) pe_int (fun _ _ => rfl)) pa_nil)))))) pss_nil) (pss_cons (ps_setLc (i := 2) (own := [("part", 3)]) (g := (gName 3)) (tt := tYes) rfl nd rfl rfl (sw_true rfl rfl rfl (by decide +kernel)) (pi_seq (pe_slice sl_any (pv 0) (po_some pe_int) po_none)) (blkOk_by (N := ["collector", "word", "rest", "part"]) (sc := defScope st_collector_words) (by decide +kernel)) (fun _ _ _ _ _ => (pg_name (i := 3) nd rfl (by first | exact Or.inl rfl | exact Or.inr rfl))) (fun _ _ _ _ _ => pts_nil) (fun _ _ _ _ _ => (pe_ifExp (pt_cmpR op_isN (pv 3) pe_non (nomark _)) (pe_globS T.gNONE) (pe_strIS B (pv 3))))) (pss_one (ps_ret (pe_lst (pa_cons pe_str (pa_cons (pv 1) (pa_star (pv 2) pa_nil)))))))))
theorem wk_house_rows {k : Nat} {sp : Sp} {sp_kind_words : Sp} {sp_collector_words : Sp} (c_kind_words : Cal P w K mg base CX0 k "kind_words" ["kind"] sp_kind_words) (c_collector_words : Cal P w K mg base CX0 k "collector_words" ["collector"] sp_collector_words) {f : Addr} {fd : FuncData} {dvs : List V} (F : FnP K "house_rows" "house_rows" st_house_rows dvs f fd) (len : ∀ vs H Q E, sp vs H Q E → vs.length = 1) (ok : ∀ vs H Q E, sp vs H Q E → (t_house_rows K A E sp_kind_words sp_collector_words) { nx := fun _ H' => Q .non H', rt := Q } (start ["house", "rows", "kind"] vs) H) : FnOk P w K mg base CX0 (k + 1) f fd ["house"] sp := by
  have nd := sc_house_rows.nd
  refine F.ok sc_house_rows len fun cdv A' outer s H vs Q E hr h => ⟨t_house_rows K A E sp_kind_words sp_collector_words, PSs.nox ?_, ok vs H Q E h⟩
  exact (pss_cons (ps_set (i := 1) nd rfl (by first | exact Or.inl rfl | exact Or.inr rfl) (pe_lst (pa_cons (pe_lst (pa_cons pe_str (pa_cons (pe_strI B (pe_fld (pv 0) rfl)) pa_nil))) (pa_star (pe_lc (own := [("kind", 2)]) (g := (gName 2)) (tt := tYes) rfl nd (pi_seq (pe_fld (pv 0) rfl)) (blkOk_by (N := ["house", "rows", "kind"]) (sc := defScope st_house_rows) (by decide +kernel)) (fun _ _ _ _ _ => (pg_name (i := 2) nd rfl (by first | exact Or.inl rfl | exact Or.inr rfl))) (fun _ _ _ _ _ => pts_nil) (fun _ _ _ _ _ => (pe_cal c_kind_words hr pass0 (pa_cons (pv 2) pa_nil)))) pa_nil)))) (pss_cons (ps_expr (pe_bm PySem.F.plainAttrs_list PySem.F.slot_list_extend PySem.F.type_list_extend mt_extend (pv 1) (pa_cons (pe_lst (pa_cons (pe_lst (pa_cons pe_str (pa_cons (pe_strI B (pe_fld (pv 0) rfl)) pa_nil))) (pa_cons (pe_lst (pa_cons pe_str (pa_cons (pe_strI B (pe_fld (pv 0) rfl)) pa_nil))) (pa_cons (pe_lst (pa_cons pe_str (pa_cons (pe_fld (pv 0) rfl) pa_nil))) pa_nil)))) pa_nil))) (pss_cons (ps_expr (pe_bm PySem.F.plainAttrs_list PySem.F.slot_list_extend PySem.F.type_list_extend mt_extend (pv 1) (pa_cons (pe_lst (pa_cons (pe_cal c_collector_words hr pass0 (pa_cons (pe_fld (pv 0) rfl) pa_nil)) (pa_cons (pe_lst (pa_cons pe_str (pa_cons (pe_ifExp (pt_cmpR op_isN (pe_fld (pv 0) rfl) pe_non (nomark _)) (pe_globS T.gFREE) (pe_strI B (pe_fld (pv 0) rfl))) pa_nil))) pa_nil))) pa_nil))) (pss_cons (ps_expr (pe_bm PySem.F.plainAttrs_list PySem.F.slot_list_extend PySem.F.type_list_extend mt_extend (pv 1) (pa_cons (pe_lst (pa_cons (pe_lst (pa_cons pe_str (pa_cons (pe_fld (pv 0) rfl) pa_nil))) (pa_cons (pe_lst (pa_cons pe_str (pa_cons (pe_ix ix_seq (pe_globR T.gTRUTHS) (pe_intI B (pe_fld (pv 0) rfl)) (fun _ _ => rfl)) pa_nil))) (pa_cons (pe_lst (pa_cons pe_str (pa_star (pe_fld (pv 0) rfl) pa_nil))) pa_nil)))) pa_nil))) (pss_one (ps_ret (pv 1)))))))
theorem wk_house_text {k : Nat} {sp : Sp} {sp_need_house : Sp} {sp_house_rows : Sp} (c_need_house : CalD P w K mg base (L2.CX P w) k "need_house" ["value", "part"] [.str "house"] sp_need_house) (c_house_rows : Cal P w K mg base CX0 k "house_rows" ["house"] sp_house_rows) {f : Addr} {fd : FuncData} {dvs : List V} (F : FnP K "house_text" "house_text" st_house_text dvs f fd) (len : ∀ vs H Q E, sp vs H Q E → vs.length = 1) (ok : ∀ vs H Q E, sp vs H Q E → (t_house_text K A E sp_need_house sp_house_rows) { nx := fun _ H' => Q .non H', rt := Q } (start ["house", "row"] vs) H) : FnOk P w K mg base (L2.CX P w) (k + 1) f fd ["house"] sp := by
  have nd := sc_house_text.nd
  refine F.ok sc_house_text len fun cdv A' outer s H vs Q E hr h => ⟨t_house_text K A E sp_need_house sp_house_rows, ?_, ok vs H Q E h⟩
  exact (pss_cons (ps_expr (pe_calD c_need_house hr (passE (takes_of rfl rfl rfl rfl) fun _ _ _ _ h => h) (pa_cons (pv 0) pa_nil))) (pss_one (ps_ret (pe_join pe_str (pe_lc (own := [("row", 1)]) (g := (gName 1)) (tt := tYes) rfl nd (pi_seq (pe_cal c_house_rows hr pass0 (pa_cons (pv 0) pa_nil))) (blkOk_by (N := ["house", "row"]) (sc := defScope st_house_text) (by decide +kernel)) (fun _ _ _ _ _ => (pg_name (i := 1) nd rfl (by first | exact Or.inl rfl | exact Or.inr rfl))) (fun _ _ _ _ _ => pts_nil) (fun _ _ _ _ _ => (pe_join pe_str (pv 1))))))))
theorem wk_taken_after {k : Nat} {sp : Sp} {sp_Scan_take_of : Sp} {sp_Scan_take_number : Sp} {sp_Scan_end_line : Sp} (c_Scan_take_of : Met P w K mg base (L2.CX P w) k A.cScan "take_of" ["self", "words"] sp_Scan_take_of) (c_Scan_take_number : Met P w K mg base (L2.CX P w) k A.cScan "take_number" ["self", "least", "most"] sp_Scan_take_number) (c_Scan_end_line : Met P w K mg base (L2.CX P w) k A.cScan "end_line" ["self"] sp_Scan_end_line) {f : Addr} {fd : FuncData} {dvs : List V} (F : FnP K "taken_after" "taken_after" st_taken_after dvs f fd) (len : ∀ vs H Q E, sp vs H Q E → vs.length = 4) (ok : ∀ vs H Q E, sp vs H Q E → (t_taken_after K A E sp_Scan_take_of sp_Scan_take_number sp_Scan_end_line) { nx := fun _ H' => Q .non H', rt := Q } (start ["scan", "word", "least", "most", "found"] vs) H) : FnOk P w K mg base (L2.CX P w) (k + 1) f fd ["scan", "word", "least", "most"] sp := by
  have nd := sc_taken_after.nd
  refine F.ok sc_taken_after len fun cdv A' outer s H vs Q E hr h => ⟨t_taken_after K A E sp_Scan_take_of sp_Scan_take_number sp_Scan_end_line, ?_, ok vs H Q E h⟩
  exact (pss_cons (ps_expr (pe_met c_Scan_take_of T.clScan hr (passE (takes_of rfl rfl rfl rfl) fun _ _ _ _ h => h) (pv 0) (pa_cons (pe_tup (pa_cons (pv 1) pa_nil)) pa_nil))) (pss_cons (ps_set (i := 4) nd rfl (by first | exact Or.inl rfl | exact Or.inr rfl) (pe_met c_Scan_take_number T.clScan hr (passE (takes_of rfl rfl rfl rfl) fun _ _ _ _ h => h) (pv 0) (pa_cons (pv 2) (pa_cons (pv 3) pa_nil)))) (pss_cons (ps_expr (pe_met0 c_Scan_end_line T.clScan hr (passE (takes_of rfl rfl rfl rfl) fun _ _ _ _ h => h) (pv 0))) (pss_one (ps_ret (pv 4))))))
theorem wk_taken_word {k : Nat} {sp : Sp} {sp_Scan_take_of : Sp} {sp_Scan_end_line : Sp} (c_Scan_take_of : Met P w K mg base (L2.CX P w) k A.cScan "take_of" ["self", "words"] sp_Scan_take_of) (c_Scan_end_line : Met P w K mg base (L2.CX P w) k A.cScan "end_line" ["self"] sp_Scan_end_line) {f : Addr} {fd : FuncData} {dvs : List V} (F : FnP K "taken_word" "taken_word" st_taken_word dvs f fd) (len : ∀ vs H Q E, sp vs H Q E → vs.length = 3) (ok : ∀ vs H Q E, sp vs H Q E → (t_taken_word K A E sp_Scan_take_of sp_Scan_end_line) { nx := fun _ H' => Q .non H', rt := Q } (start ["scan", "word", "words", "found"] vs) H) : FnOk P w K mg base (L2.CX P w) (k + 1) f fd ["scan", "word", "words"] sp := by
  have nd := sc_taken_word.nd
  refine F.ok sc_taken_word len fun cdv A' outer s H vs Q E hr h => ⟨t_taken_word K A E sp_Scan_take_of sp_Scan_end_line, ?_, ok vs H Q E h⟩
  exact (pss_cons (ps_expr (pe_met c_Scan_take_of T.clScan hr (passE (takes_of rfl rfl rfl rfl) fun _ _ _ _ h => h) (pv 0) (pa_cons (pe_tup (pa_cons (pv 1) pa_nil)) pa_nil))) (pss_cons (ps_set (i := 3) nd rfl (by first | exact Or.inl rfl | exact Or.inr rfl) (pe_met c_Scan_take_of T.clScan hr (passE (takes_of rfl rfl rfl rfl) fun _ _ _ _ h => h) (pv 0) (pa_cons (pv 2) pa_nil))) (pss_cons (ps_expr (pe_met0 c_Scan_end_line T.clScan hr (passE (takes_of rfl rfl rfl rfl) fun _ _ _ _ h => h) (pv 0))) (pss_one (ps_ret (pv 3))))))
theorem wk_taken_lot {k : Nat} {sp : Sp} {sp_Scan_ahead : Sp} {sp_Scan_take_of : Sp} (c_Scan_ahead : Met P w K mg base CX0 k A.cScan "ahead" ["self"] sp_Scan_ahead) (c_Scan_take_of : Met P w K mg base (L2.CX P w) k A.cScan "take_of" ["self", "words"] sp_Scan_take_of) {f : Addr} {fd : FuncData} {dvs : List V} (F : FnP K "taken_lot" "taken_lot" st_taken_lot dvs f fd) (len : ∀ vs H Q E, sp vs H Q E → vs.length = 2) (ok : ∀ vs H Q E, sp vs H Q E → (t_taken_lot K A E sp_Scan_ahead sp_Scan_take_of) { nx := fun _ H' => Q .non H', rt := Q } (start ["scan", "words", "found", "word"] vs) H) : FnOk P w K mg base (L2.CX P w) (k + 1) f fd ["scan", "words"] sp := by
  have nd := sc_taken_lot.nd
  refine F.ok sc_taken_lot len fun cdv A' outer s H vs Q E hr h => ⟨t_taken_lot K A E sp_Scan_ahead sp_Scan_take_of, ?_, ok vs H Q E h⟩
  exact (pss_cons (ps_set (i := 2) nd rfl (by first | exact Or.inl rfl | exact Or.inr rfl) (pe_lst pa_nil)) (pss_cons (ps_while (passes_of rfl) (pt_cmpR op_notN (pe_met0 c_Scan_ahead T.clScan hr pass0 (pv 0)) pe_non (nomark _)) (pss_one (ps_expr (pe_bm PySem.F.plainAttrs_list PySem.F.slot_list_append PySem.F.type_list_append mt_append (pv 2) (pa_cons (pe_met c_Scan_take_of T.clScan hr (passE (takes_of rfl rfl rfl rfl) fun _ _ _ _ h => h) (pv 0) (pa_cons (pe_lc (own := [("word", 3)]) (g := (gName 3)) (tt := (tOr (tTest (tOp (rEqD K) (tVar 2) (tLst tNil))) (tTest (tOp rGtS (tVar 3) (tOp (rIx K) (tVar 2) (tUn rNeg (tC (.int 1)))))))) rfl nd (pi_seq (pv 1)) (blkOk_by (N := ["scan", "words", "found", "word"]) (sc := defScope st_taken_lot) (by decide +kernel)) (fun _ _ _ _ _ => (pg_name (i := 3) nd rfl (by first | exact Or.inl rfl | exact Or.inr rfl))) (fun _ _ _ _ _ => (pts_one (PW.pt (pw_or (pt_cmpR (op_eqD hr.units) (pv 2) (pe_lst pa_nil) (nomark _)) (pw_or1 (pt_cmpR op_gt_str (pv 3) (pe_ix ix_seq (pv 2) (pe_un un_neg pe_int) (fun _ _ => rfl)) (nomark _))))))) (fun _ _ _ _ _ => (pv 3))) pa_nil)) pa_nil))))) (pss_one (ps_ret (pv 2)))))
theorem wk_taken_link {k : Nat} {sp : Sp} {sp_is_figure : Sp} {sp_Scan_ahead : Sp} {sp_Scan_take_number : Sp} (c_is_figure : Cal P w K mg base CX0 k "is_figure" ["word", "least", "most"] sp_is_figure) (c_Scan_ahead : Met P w K mg base CX0 k A.cScan "ahead" ["self"] sp_Scan_ahead) (c_Scan_take_number : Met P w K mg base (L2.CX P w) k A.cScan "take_number" ["self", "least", "most"] sp_Scan_take_number) {f : Addr} {fd : FuncData} {dvs : List V} (F : FnP K "taken_link" "taken_link" st_taken_link dvs f fd) (len : ∀ vs H Q E, sp vs H Q E → vs.length = 2) (ok : ∀ vs H Q E, sp vs H Q E → (t_taken_link K A E sp_is_figure sp_Scan_ahead sp_Scan_take_number) { nx := fun _ H' => Q .non H', rt := Q } (start ["scan", "many", "found"] vs) H) : FnOk P w K mg base (L2.CX P w) (k + 1) f fd ["scan", "many"] sp := by
  have nd := sc_taken_link.nd
  refine F.ok sc_taken_link len fun cdv A' outer s H vs Q E hr h => ⟨t_taken_link K A E sp_is_figure sp_Scan_ahead sp_Scan_take_number, ?_, ok vs H Q E h⟩
  exact (pss_cons (ps_set (i := 2) nd rfl (by first | exact Or.inl rfl | exact Or.inr rfl) (pe_lst pa_nil)) (pss_cons (ps_while (passes_of rfl) (pt_val (pe_cal c_is_figure hr pass0 (pa_cons (pe_met0 c_Scan_ahead T.clScan hr pass0 (pv 0)) (pa_cons pe_int (pa_cons (pe_op op_sub (pv 1) pe_int) pa_nil))))) (pss_one (ps_expr (pe_bm PySem.F.plainAttrs_list PySem.F.slot_list_append PySem.F.type_list_append mt_append (pv 2) (pa_cons (pe_met c_Scan_take_number T.clScan hr (passE (takes_of rfl rfl rfl rfl) fun _ _ _ _ h => h) (pv 0) (pa_cons (pe_ifExp (pt_cmpR (op_neD hr.units) (pv 2) (pe_lst pa_nil) (nomark _)) (pe_op op_add (pe_ix ix_seq (pv 2) (pe_un un_neg pe_int) (fun _ _ => rfl)) pe_int) pe_int) (pa_cons (pe_op op_sub (pv 1) pe_int) pa_nil))) pa_nil))))) (pss_one (ps_ret (pv 2)))))
theorem wk_taken_kind {k : Nat} {sp : Sp} {sp_Scan_take_of : Sp} {sp_Scan_take_number : Sp} {sp_Scan_ahead : Sp} {sp_taken_link : Sp} {sp_Scan_end_line : Sp} (c_Scan_take_of : Met P w K mg base (L2.CX P w) k A.cScan "take_of" ["self", "words"] sp_Scan_take_of) (c_Scan_take_number : Met P w K mg base (L2.CX P w) k A.cScan "take_number" ["self", "least", "most"] sp_Scan_take_number) (c_Scan_ahead : Met P w K mg base CX0 k A.cScan "ahead" ["self"] sp_Scan_ahead) (c_taken_link : Cal P w K mg base (L2.CX P w) k "taken_link" ["scan", "many"] sp_taken_link) (c_Scan_end_line : Met P w K mg base (L2.CX P w) k A.cScan "end_line" ["self"] sp_Scan_end_line) {f : Addr} {fd : FuncData} {dvs : List V} (F : FnP K "taken_kind" "taken_kind" st_taken_kind dvs f fd) (len : ∀ vs H Q E, sp vs H Q E → vs.length = 2) (ok : ∀ vs H Q E, sp vs H Q E → (t_taken_kind K A E sp_Scan_take_of sp_Scan_take_number sp_Scan_ahead sp_taken_link sp_Scan_end_line) { nx := fun _ H' => Q .non H', rt := Q } (start ["scan", "many", "size", "links"] vs) H) : FnOk P w K mg base (L2.CX P w) (k + 1) f fd ["scan", "many"] sp := by
  have nd := sc_taken_kind.nd
  refine F.ok sc_taken_kind len fun cdv A' outer s H vs Q E hr h => ⟨t_taken_kind K A E sp_Scan_take_of sp_Scan_take_number sp_Scan_ahead sp_taken_link sp_Scan_end_line, ?_, ok vs H Q E h⟩
  exact (pss_cons (ps_expr (pe_met c_Scan_take_of T.clScan hr (passE (takes_of rfl rfl rfl rfl) fun _ _ _ _ h => h) (pv 0) (pa_cons (pe_tup (pa_cons pe_str pa_nil)) pa_nil))) (pss_cons (ps_par (i := 2) (j := 3) (by rfl) nd rfl rfl (by decide) rfl rfl (pa_cons (pe_met c_Scan_take_number T.clScan hr (passE (takes_of rfl rfl rfl rfl) fun _ _ _ _ h => h) (pv 0) (pa_cons pe_int (pa_cons (pe_globI T.gMOST_SIZE) pa_nil))) (pa_cons (pe_lst pa_nil) pa_nil)) (by rfl)) (pss_cons (ps_while (passes_of rfl) (PW.pt (pw_and (pt_cmpR op_notN (pe_met0 c_Scan_ahead T.clScan hr pass0 (pv 0)) pe_non (nomark _)) (pw_and1 (pt_cmpR op_lt (pe_len B (pv 3)) (pe_min BH rfl (pa_cons (pv 2) (pa_cons (pe_globI T.gMOST_LINKS) pa_nil))) (nomark _))))) (pss_cons (ps_expr (pe_met c_Scan_take_of T.clScan hr (passE (takes_of rfl rfl rfl rfl) fun _ _ _ _ h => h) (pv 0) (pa_cons (pe_tup (pa_cons pe_str pa_nil)) pa_nil))) (pss_one (ps_expr (pe_bm PySem.F.plainAttrs_list PySem.F.slot_list_append PySem.F.type_list_append mt_append (pv 3) (pa_cons (pe_cal c_taken_link hr (passE (takes_of rfl rfl rfl rfl) fun _ _ _ _ h => h) (pa_cons (pv 0) (pa_cons (pv 1) pa_nil))) pa_nil)))))) (pss_cons (ps_expr (pe_met0 c_Scan_end_line T.clScan hr (passE (takes_of rfl rfl rfl rfl) fun _ _ _ _ h => h) (pv 0))) (pss_one (ps_ret (pe_tup (pa_cons (pv 2) (pa_cons (pv 3) pa_nil)))))))))
theorem wk_kinds_ahead {k : Nat} {sp : Sp}  {f : Addr} {fd : FuncData} {dvs : List V} (F : FnP K "kinds_ahead" "kinds_ahead" st_kinds_ahead dvs f fd) (len : ∀ vs H Q E, sp vs H Q E → vs.length = 1) (ok : ∀ vs H Q E, sp vs H Q E → (t_kinds_ahead K A E) { nx := fun _ H' => Q .non H', rt := Q } (start ["scan", "found", "line"] vs) H) : FnOk P w K mg base CX0 (k + 1) f fd ["scan"] sp := by
  have nd := sc_kinds_ahead.nd
  refine F.ok sc_kinds_ahead len fun cdv A' outer s H vs Q E hr h => ⟨t_kinds_ahead K A E, PSs.nox ?_, ok vs H Q E h⟩
  exact (pss_cons (ps_set (i := 1) nd rfl (by first | exact Or.inl rfl | exact Or.inr rfl) pe_int) (pss_cons (ps_for PassesOwn.never rfl (pi_seq (pe_slice sl_any (pe_fld (pv 0) rfl) (po_some (pe_fld (pv 0) rfl)) po_none)) (pg_name (i := 2) nd rfl (by first | exact Or.inl rfl | exact Or.inr rfl)) (pss_cons (ps_if (pt_cmpR (op_neD hr.units) (pe_slice sl_any (pv 2) po_none (po_some pe_int)) (pe_lst (pa_cons pe_str pa_nil)) (nomark _)) (pss_one ps_break) pss_nil) (pss_one (ps_aug (i := 1) nd rfl (by first | exact Or.inl rfl | exact Or.inr rfl) pe_int in_add)))) (pss_one (ps_ret (pv 1)))))
theorem wk_taken_kinds {k : Nat} {sp : Sp} {sp_kinds_ahead : Sp} {sp_taken_kind : Sp} (c_kinds_ahead : Cal P w K mg base CX0 k "kinds_ahead" ["scan"] sp_kinds_ahead) (c_taken_kind : Cal P w K mg base (L2.CX P w) k "taken_kind" ["scan", "many"] sp_taken_kind) {f : Addr} {fd : FuncData} {dvs : List V} (F : FnP K "taken_kinds" "taken_kinds" st_taken_kinds dvs f fd) (len : ∀ vs H Q E, sp vs H Q E → vs.length = 1) (ok : ∀ vs H Q E, sp vs H Q E → (t_taken_kinds K A E sp_kinds_ahead sp_taken_kind) { nx := fun _ H' => Q .non H', rt := Q } (start ["scan", "many", "found"] vs) H) : FnOk P w K mg base (L2.CX P w) (k + 1) f fd ["scan"] sp := by
  have nd := sc_taken_kinds.nd
  refine F.ok sc_taken_kinds len fun cdv A' outer s H vs Q E hr h => ⟨t_taken_kinds K A E sp_kinds_ahead sp_taken_kind, ?_, ok vs H Q E h⟩
  exact (pss_cons (ps_par (i := 1) (j := 2) (by rfl) nd rfl rfl (by decide) rfl rfl (pa_cons (pe_min BH rfl (pa_cons (pe_max BH rfl (pa_cons pe_int (pa_cons (pe_cal c_kinds_ahead hr pass0 (pa_cons (pv 0) pa_nil)) pa_nil))) (pa_cons (pe_globI T.gMOST_KINDS) pa_nil))) (pa_cons (pe_lst pa_nil) pa_nil)) (by rfl)) (pss_cons (ps_while (passes_of rfl) (pt_cmpR op_lt (pe_len B (pv 2)) (pv 1) (nomark _)) (pss_one (ps_expr (pe_bm PySem.F.plainAttrs_list PySem.F.slot_list_append PySem.F.type_list_append mt_append (pv 2) (pa_cons (pe_cal c_taken_kind hr (passE (takes_of rfl rfl rfl rfl) fun _ _ _ _ h => h) (pa_cons (pv 0) (pa_cons (pv 1) pa_nil))) pa_nil))))) (pss_one (ps_ret (pv 2)))))
theorem wk_taken_collector {k : Nat} {sp : Sp} {sp_Scan_take_of : Sp} {sp_taken_count : Sp} {sp_taken_lot : Sp} {sp_Scan_take_number : Sp} {sp_Scan_end_line : Sp} (c_Scan_take_of : Met P w K mg base (L2.CX P w) k A.cScan "take_of" ["self", "words"] sp_Scan_take_of) (c_taken_count : Cal P w K mg base (L2.CX P w) k "taken_count" ["scan"] sp_taken_count) (c_taken_lot : Cal P w K mg base (L2.CX P w) k "taken_lot" ["scan", "words"] sp_taken_lot) (c_Scan_take_number : Met P w K mg base (L2.CX P w) k A.cScan "take_number" ["self", "least", "most"] sp_Scan_take_number) (c_Scan_end_line : Met P w K mg base (L2.CX P w) k A.cScan "end_line" ["self"] sp_Scan_end_line) {f : Addr} {fd : FuncData} {dvs : List V} (F : FnP K "taken_collector" "taken_collector" st_taken_collector dvs f fd) (len : ∀ vs H Q E, sp vs H Q E → vs.length = 1) (ok : ∀ vs H Q E, sp vs H Q E → (t_taken_collector K A E sp_Scan_take_of sp_taken_count sp_taken_lot sp_Scan_take_number sp_Scan_end_line) { nx := fun _ H' => Q .non H', rt := Q } (start ["scan", "found"] vs) H) : FnOk P w K mg base (L2.CX P w) (k + 1) f fd ["scan"] sp := by
  have nd := sc_taken_collector.nd
  refine F.ok sc_taken_collector len fun cdv A' outer s H vs Q E hr h => ⟨t_taken_collector K A E sp_Scan_take_of sp_taken_count sp_taken_lot sp_Scan_take_number sp_Scan_end_line, ?_, ok vs H Q E h⟩
  exact (pss_cons (ps_expr (pe_met c_Scan_take_of T.clScan hr (passE (takes_of rfl rfl rfl rfl) fun _ _ _ _ h => h) (pv 0) (pa_cons (pe_tup (pa_cons pe_str pa_nil)) pa_nil))) (pss_cons (ps_set (i := 1) nd rfl (by first | exact Or.inl rfl | exact Or.inr rfl) (pe_lst (pa_cons (pe_met c_Scan_take_of T.clScan hr (passE (takes_of rfl rfl rfl rfl) fun _ _ _ _ h => h) (pv 0) (pa_cons (pe_globR T.gCOLLECTORS) pa_nil)) pa_nil))) (pss_cons (ps_if (pt_cmpR (op_eqD hr.units) (pe_ix ix_seq (pv 1) pe_int (fun _ _ => rfl)) pe_str (nomark _)) (pss_cons (ps_expr (pe_bm PySem.F.plainAttrs_list PySem.F.slot_list_append PySem.F.type_list_append mt_append (pv 1) (pa_cons (pe_cal c_taken_count hr (passE (takes_of rfl rfl rfl rfl) fun _ _ _ _ h => h) (pa_cons (pv 0) pa_nil)) pa_nil))) (pss_one (ps_expr (pe_bm PySem.F.plainAttrs_list PySem.F.slot_list_append PySem.F.type_list_append mt_append (pv 1) (pa_cons (pe_met c_Scan_take_of T.clScan hr (passE (takes_of rfl rfl rfl rfl) fun _ _ _ _ h => h) (pv 0) (pa_cons (pe_globR T.gORDERS) pa_nil)) pa_nil))))) (pss_one (ps_if (pt_cmpR (op_eqD hr.units) (pe_ix ix_seq (pv 1) pe_int (fun _ _ => rfl)) pe_str (nomark _)) (pss_one (ps_expr (pe_bm PySem.F.plainAttrs_list PySem.F.slot_list_append PySem.F.type_list_append mt_append (pv 1) (pa_cons (pe_cal c_taken_lot hr (passE (takes_of rfl rfl rfl rfl) fun _ _ _ _ h => h) (pa_cons (pv 0) (pa_cons (pe_globR T.gGUARDS) pa_nil))) pa_nil)))) (pss_one (ps_if (pt_cmpR (op_eqD hr.units) (pe_ix ix_seq (pv 1) pe_int (fun _ _ => rfl)) pe_str (nomark _)) (pss_cons (ps_expr (pe_bm PySem.F.plainAttrs_list PySem.F.slot_list_append PySem.F.type_list_append mt_append (pv 1) (pa_cons (pe_met c_Scan_take_number T.clScan hr (passE (takes_of rfl rfl rfl rfl) fun _ _ _ _ h => h) (pv 0) (pa_cons pe_int (pa_cons (pe_op op_sub (pe_globI T.gMOST_CELLS) pe_int) pa_nil))) pa_nil))) (pss_one (ps_expr (pe_bm PySem.F.plainAttrs_list PySem.F.slot_list_append PySem.F.type_list_append mt_append (pv 1) (pa_cons (pe_met c_Scan_take_of T.clScan hr (passE (takes_of rfl rfl rfl rfl) fun _ _ _ _ h => h) (pv 0) (pa_cons (pe_globR T.gREMEMBERS) pa_nil)) pa_nil))))) pss_nil))))) (pss_cons (ps_expr (pe_met0 c_Scan_end_line T.clScan hr (passE (takes_of rfl rfl rfl rfl) fun _ _ _ _ h => h) (pv 0))) (pss_one (ps_ret (pv 1)))))))
theorem wk_taken_count {k : Nat} {sp : Sp} {sp_Scan_ahead : Sp} {sp_Scan_take_of : Sp} {sp_Scan_take_number : Sp} (c_Scan_ahead : Met P w K mg base CX0 k A.cScan "ahead" ["self"] sp_Scan_ahead) (c_Scan_take_of : Met P w K mg base (L2.CX P w) k A.cScan "take_of" ["self", "words"] sp_Scan_take_of) (c_Scan_take_number : Met P w K mg base (L2.CX P w) k A.cScan "take_number" ["self", "least", "most"] sp_Scan_take_number) {f : Addr} {fd : FuncData} {dvs : List V} (F : FnP K "taken_count" "taken_count" st_taken_count dvs f fd) (len : ∀ vs H Q E, sp vs H Q E → vs.length = 1) (ok : ∀ vs H Q E, sp vs H Q E → (t_taken_count K A E sp_Scan_ahead sp_Scan_take_of sp_Scan_take_number) { nx := fun _ H' => Q .non H', rt := Q } (start ["scan"] vs) H) : FnOk P w K mg base (L2.CX P w) (k + 1) f fd ["scan"] sp := by
  have nd := sc_taken_count.nd
  refine F.ok sc_taken_count len fun cdv A' outer s H vs Q E hr h => ⟨t_taken_count K A E sp_Scan_ahead sp_Scan_take_of sp_Scan_take_number, ?_, ok vs H Q E h⟩
  exact (pss_cons (ps_if (pt_cmpR (op_eqD hr.units) (pe_met0 c_Scan_ahead T.clScan hr pass0 (pv 0)) (pe_globS T.gNONE) (nomark _)) (pss_cons (ps_expr (pe_met c_Scan_take_of T.clScan hr (passE (takes_of rfl rfl rfl rfl) fun _ _ _ _ h => h) (pv 0) (pa_cons (pe_tup (pa_cons (pe_globS T.gNONE) pa_nil)) pa_nil))) (pss_one (ps_ret pe_non))) pss_nil) (pss_one (ps_ret (pe_met c_Scan_take_number T.clScan hr (passE (takes_of rfl rfl rfl rfl) fun _ _ _ _ h => h) (pv 0) (pa_cons pe_int (pa_cons (pe_globI T.gMOST_COUNT) pa_nil))))))
theorem wk_taken_pace {k : Nat} {sp : Sp} {sp_Scan_take_of : Sp} {sp_Scan_ahead : Sp} {sp_Scan_take_number : Sp} {sp_Scan_end_line : Sp} (c_Scan_take_of : Met P w K mg base (L2.CX P w) k A.cScan "take_of" ["self", "words"] sp_Scan_take_of) (c_Scan_ahead : Met P w K mg base CX0 k A.cScan "ahead" ["self"] sp_Scan_ahead) (c_Scan_take_number : Met P w K mg base (L2.CX P w) k A.cScan "take_number" ["self", "least", "most"] sp_Scan_take_number) (c_Scan_end_line : Met P w K mg base (L2.CX P w) k A.cScan "end_line" ["self"] sp_Scan_end_line) {f : Addr} {fd : FuncData} {dvs : List V} (F : FnP K "taken_pace" "taken_pace" st_taken_pace dvs f fd) (len : ∀ vs H Q E, sp vs H Q E → vs.length = 1) (ok : ∀ vs H Q E, sp vs H Q E → (t_taken_pace K A E sp_Scan_take_of sp_Scan_ahead sp_Scan_take_number sp_Scan_end_line) { nx := fun _ H' => Q .non H', rt := Q } (start ["scan", "found"] vs) H) : FnOk P w K mg base (L2.CX P w) (k + 1) f fd ["scan"] sp := by
  have nd := sc_taken_pace.nd
  refine F.ok sc_taken_pace len fun cdv A' outer s H vs Q E hr h => ⟨t_taken_pace K A E sp_Scan_take_of sp_Scan_ahead sp_Scan_take_number sp_Scan_end_line, ?_, ok vs H Q E h⟩
  exact (pss_cons (ps_expr (pe_met c_Scan_take_of T.clScan hr (passE (takes_of rfl rfl rfl rfl) fun _ _ _ _ h => h) (pv 0) (pa_cons (pe_tup (pa_cons pe_str pa_nil)) pa_nil))) (pss_cons (ps_if (pt_cmpR (op_eqD hr.units) (pe_met0 c_Scan_ahead T.clScan hr pass0 (pv 0)) (pe_globS T.gFREE) (nomark _)) (pss_cons (ps_expr (pe_met c_Scan_take_of T.clScan hr (passE (takes_of rfl rfl rfl rfl) fun _ _ _ _ h => h) (pv 0) (pa_cons (pe_tup (pa_cons (pe_globS T.gFREE) pa_nil)) pa_nil))) (pss_one (ps_set (i := 1) nd rfl (by first | exact Or.inl rfl | exact Or.inr rfl) pe_non))) (pss_one (ps_set (i := 1) nd rfl (by first | exact Or.inl rfl | exact Or.inr rfl) (pe_met c_Scan_take_number T.clScan hr (passE (takes_of rfl rfl rfl rfl) fun _ _ _ _ h => h) (pv 0) (pa_cons pe_int (pa_cons (pe_globI T.gMOST_PACE) pa_nil)))))) (pss_cons (ps_expr (pe_met0 c_Scan_end_line T.clScan hr (passE (takes_of rfl rfl rfl rfl) fun _ _ _ _ h => h) (pv 0))) (pss_one (ps_ret (pv 1))))))
theorem wk_taken_asked {k : Nat} {sp : Sp} {sp_Scan_take_of : Sp} {sp_Scan_end_line : Sp} (c_Scan_take_of : Met P w K mg base (L2.CX P w) k A.cScan "take_of" ["self", "words"] sp_Scan_take_of) (c_Scan_end_line : Met P w K mg base (L2.CX P w) k A.cScan "end_line" ["self"] sp_Scan_end_line) {f : Addr} {fd : FuncData} {dvs : List V} (F : FnP K "taken_asked" "taken_asked" st_taken_asked dvs f fd) (len : ∀ vs H Q E, sp vs H Q E → vs.length = 1) (ok : ∀ vs H Q E, sp vs H Q E → (t_taken_asked K A E sp_Scan_take_of sp_Scan_end_line) { nx := fun _ H' => Q .non H', rt := Q } (start ["scan", "found", "word"] vs) H) : FnOk P w K mg base (L2.CX P w) (k + 1) f fd ["scan"] sp := by
  have nd := sc_taken_asked.nd
  refine F.ok sc_taken_asked len fun cdv A' outer s H vs Q E hr h => ⟨t_taken_asked K A E sp_Scan_take_of sp_Scan_end_line, ?_, ok vs H Q E h⟩
  exact (pss_cons (ps_expr (pe_met c_Scan_take_of T.clScan hr (passE (takes_of rfl rfl rfl rfl) fun _ _ _ _ h => h) (pv 0) (pa_cons (pe_tup (pa_cons pe_str pa_nil)) pa_nil))) (pss_cons (ps_set (i := 1) nd rfl (by first | exact Or.inl rfl | exact Or.inr rfl) (pe_lst pa_nil)) (pss_cons (ps_while (passes_of rfl) (pt_cmpR op_notIn_seq pe_str (pv 1) (by rfl)) (pss_one (ps_expr (pe_bm PySem.F.plainAttrs_list PySem.F.slot_list_append PySem.F.type_list_append mt_append (pv 1) (pa_cons (pe_met c_Scan_take_of T.clScan hr (passE (takes_of rfl rfl rfl rfl) fun _ _ _ _ h => h) (pv 0) (pa_cons (pe_lc (own := [("word", 2)]) (g := (gName 2)) (tt := (tOr (tTest (tOp (rEqD K) (tVar 1) (tLst tNil))) (tTest (tOp rGtS (tVar 2) (tOp (rIx K) (tVar 1) (tUn rNeg (tC (.int 1)))))))) rfl nd (pi_seq (pe_globR T.gBREAKS)) (blkOk_by (N := ["scan", "found", "word"]) (sc := defScope st_taken_asked) (by decide +kernel)) (fun _ _ _ _ _ => (pg_name (i := 2) nd rfl (by first | exact Or.inl rfl | exact Or.inr rfl))) (fun _ _ _ _ _ => (pts_one (PW.pt (pw_or (pt_cmpR (op_eqD hr.units) (pv 1) (pe_lst pa_nil) (nomark _)) (pw_or1 (pt_cmpR op_gt_str (pv 2) (pe_ix ix_seq (pv 1) (pe_un un_neg pe_int) (fun _ _ => rfl)) (nomark _))))))) (fun _ _ _ _ _ => (pv 2))) pa_nil)) pa_nil))))) (pss_cons (ps_expr (pe_met0 c_Scan_end_line T.clScan hr (passE (takes_of rfl rfl rfl rfl) fun _ _ _ _ h => h) (pv 0))) (pss_one (ps_ret (pv 1)))))))
theorem wk_taken_house {k : Nat} {sp : Sp} {sp_taken_kinds : Sp} {sp_taken_after : Sp} {sp_taken_collector : Sp} {sp_taken_word : Sp} {sp_taken_pace : Sp} {sp_taken_asked : Sp} {sp_Scan_finish : Sp} {sp_House___init__ : Sp} (c_taken_kinds : Cal P w K mg base (L2.CX P w) k "taken_kinds" ["scan"] sp_taken_kinds) (c_taken_after : Cal P w K mg base (L2.CX P w) k "taken_after" ["scan", "word", "least", "most"] sp_taken_after) (c_taken_collector : Cal P w K mg base (L2.CX P w) k "taken_collector" ["scan"] sp_taken_collector) (c_taken_word : Cal P w K mg base (L2.CX P w) k "taken_word" ["scan", "word", "words"] sp_taken_word) (c_taken_pace : Cal P w K mg base (L2.CX P w) k "taken_pace" ["scan"] sp_taken_pace) (c_taken_asked : Cal P w K mg base (L2.CX P w) k "taken_asked" ["scan"] sp_taken_asked) (c_Scan_finish : Met P w K mg base (L2.CX P w) k A.cScan "finish" ["self"] sp_Scan_finish) (c_House___init__ : Ini P w K mg base (L2.CX P w) k A.cHouse ["self", "cells", "kinds", "registers", "live", "rooms", "collector", "pace", "need", "slide", "asked"] sp_House___init__) {f : Addr} {fd : FuncData} {dvs : List V} (F : FnP K "taken_house" "taken_house" st_taken_house dvs f fd) (len : ∀ vs H Q E, sp vs H Q E → vs.length = 1) (ok : ∀ vs H Q E, sp vs H Q E → (t_taken_house K A E sp_taken_kinds sp_taken_after sp_taken_collector sp_taken_word sp_taken_pace sp_taken_asked sp_Scan_finish sp_House___init__) { nx := fun _ H' => Q .non H', rt := Q } (start ["scan", "cells", "kinds", "registers", "live", "rooms", "collector", "pace", "need", "slide", "asked"] vs) H) : FnOk P w K mg base (L2.CX P w) (k + 1) f fd ["scan"] sp := by
  have nd := sc_taken_house.nd
  refine F.ok sc_taken_house len fun cdv A' outer s H vs Q E hr h => ⟨t_taken_house K A E sp_taken_kinds sp_taken_after sp_taken_collector sp_taken_word sp_taken_pace sp_taken_asked sp_Scan_finish sp_House___init__, ?_, ok vs H Q E h⟩
  exact (pss_cons (ps_par (i := 1) (j := 2) (by rfl) nd rfl rfl (by decide) rfl rfl (pa_cons (pe_cal c_taken_after hr (passE (takes_of rfl rfl rfl rfl) fun _ _ _ _ h => h) (pa_cons (pv 0) (pa_cons pe_str (pa_cons pe_int (pa_cons (pe_globI T.gMOST_CELLS) pa_nil))))) (pa_cons (pe_cal c_taken_kinds hr (passE (takes_of rfl rfl rfl rfl) fun _ _ _ _ h => h) (pa_cons (pv 0) pa_nil)) pa_nil)) (by rfl)) (pss_cons (ps_par (i := 3) (j := 4) (by rfl) nd rfl rfl (by decide) rfl rfl (pa_cons (pe_cal c_taken_after hr (passE (takes_of rfl rfl rfl rfl) fun _ _ _ _ h => h) (pa_cons (pv 0) (pa_cons pe_str (pa_cons pe_int (pa_cons (pe_globI T.gMOST_REGISTERS) pa_nil))))) (pa_cons (pe_cal c_taken_after hr (passE (takes_of rfl rfl rfl rfl) fun _ _ _ _ h => h) (pa_cons (pv 0) (pa_cons pe_str (pa_cons pe_int (pa_cons (pe_globI T.gMOST_CELLS) pa_nil))))) pa_nil)) (by rfl)) (pss_cons (ps_par (i := 5) (j := 6) (by rfl) nd rfl rfl (by decide) rfl rfl (pa_cons (pe_cal c_taken_word hr (passE (takes_of rfl rfl rfl rfl) fun _ _ _ _ h => h) (pa_cons (pv 0) (pa_cons pe_str (pa_cons (pe_globR T.gROOMS) pa_nil)))) (pa_cons (pe_cal c_taken_collector hr (passE (takes_of rfl rfl rfl rfl) fun _ _ _ _ h => h) (pa_cons (pv 0) pa_nil)) pa_nil)) (by rfl)) (pss_cons (ps_par (i := 7) (j := 8) (by rfl) nd rfl rfl (by decide) rfl rfl (pa_cons (pe_cal c_taken_pace hr (passE (takes_of rfl rfl rfl rfl) fun _ _ _ _ h => h) (pa_cons (pv 0) pa_nil)) (pa_cons (pe_cal c_taken_word hr (passE (takes_of rfl rfl rfl rfl) fun _ _ _ _ h => h) (pa_cons (pv 0) (pa_cons pe_str (pa_cons (pe_globR T.gNEEDS) pa_nil)))) pa_nil)) (by rfl)) (pss_cons (ps_par (i := 9) (j := 10) (by rfl) nd rfl rfl (by decide) rfl rfl (pa_cons (pe_cal c_taken_word hr (passE (takes_of rfl rfl rfl rfl) fun _ _ _ _ h => h) (pa_cons (pv 0) (pa_cons pe_str (pa_cons (pe_globR T.gTRUTHS) pa_nil)))) (pa_cons (pe_cal c_taken_asked hr (passE (takes_of rfl rfl rfl rfl) fun _ _ _ _ h => h) (pa_cons (pv 0) pa_nil)) pa_nil)) (by rfl)) (pss_cons (ps_expr (pe_met0 c_Scan_finish T.clScan hr (passE (takes_of rfl rfl rfl rfl) fun _ _ _ _ h => h) (pv 0))) (pss_one (ps_ret (pe_ini c_House___init__ hr (passE (takes_of rfl rfl rfl rfl) fun _ _ _ _ h => h) T.gHouse (pa_cons (pv 1) (pa_cons (pv 2) (pa_cons (pv 3) (pa_cons (pv 4) (pa_cons (pv 5) (pa_cons (pv 6) (pa_cons (pv 7) (pa_cons (pv 8) (pa_cons (pe_cmpR (op_eqD hr.units) (pv 9) pe_str (nomark _)) (pa_cons (pv 10) pa_nil)))))))))))))))))))
theorem wk_read_house {k : Nat} {sp : Sp} {sp_taken_house : Sp} {sp_scan_of : Sp} (c_taken_house : Cal P w K mg base (L2.CX P w) k "taken_house" ["scan"] sp_taken_house) (c_scan_of : Cal P w K mg base (L2.CX P w) k "scan_of" ["text"] sp_scan_of) {f : Addr} {fd : FuncData} {dvs : List V} (F : FnP K "read_house" "read_house" st_read_house dvs f fd) (len : ∀ vs H Q E, sp vs H Q E → vs.length = 1) (ok : ∀ vs H Q E, sp vs H Q E → (t_read_house K A E sp_taken_house sp_scan_of) { nx := fun _ H' => Q .non H', rt := Q } (start ["text"] vs) H) : FnOk P w K mg base (L2.CX P w) (k + 1) f fd ["text"] sp := by
  have nd := sc_read_house.nd
  refine F.ok sc_read_house len fun cdv A' outer s H vs Q E hr h => ⟨t_read_house K A E sp_taken_house sp_scan_of, ?_, ok vs H Q E h⟩
  exact (pss_one (ps_ret (pe_cal c_taken_house hr (passE (takes_of rfl rfl rfl rfl) fun _ _ _ _ h => h) (pa_cons (pe_cal c_scan_of hr (passE (takes_of rfl rfl rfl rfl) fun _ _ _ _ h => h) (pa_cons (pv 0) pa_nil)) pa_nil))))
end
end Nv
set_option Elab.async false
set_option linter.all false
set_option maxRecDepth 100000
set_option maxHeartbeats 2000000
/-! The law's def at the caller itself: what stands around it is known (no guard stands). -/
namespace NvE
open PySem PySem.Spec PyProof.Rows L2 LamX
/-- a def's run at one place, by its body -/
theorem call_at {CX : CXT} {P : Program} {w : World} {K : PySem.W.Frag} {mg : Str → Option Value} {base : Heap} {k : Nat} {f : Addr} {name qual : Str} {params : Arguments} {body : List Stmt} {scope : Scope}
    {dV kV doc pm cdv ct oc : Value} {an od : Option Addr} {osl : Array (Option Value)} {N ps : List Str} {A : Around} {outer : List Env} {s : Shared} {H : Hp} {args : Args} {us : List Value} {vs : List V} {Q : VK} {E : XK}
    (lk : K.lookup f = some ⟨oc, od, .func (PySem.W.fnOf name qual params body scope dV kV doc pm an cdv ct), osl⟩) (hcd : PySem.W.codeIn K cdv qual = true) (S : FnScope N ps scope) (hl : vs.length = ps.length)
    (hr : Room (k + 1) A) (e0 : Env0 P w K mg base A outer s H) (hb : BindsTo s (PySem.W.fnOf name qual params body scope dV kV doc pm an cdv ct) args (ps.zip us)) (r : Vals vs us)
    (hbody : ∃ t, PSs (cxOf CX P w K mg base N qual scope f cdv A outer s H E) body t ∧ t { nx := fun _ H' => Q .non H', rt := Q } (start N vs) H) :
    codeAny (model P w) A (.call (.ref f) args) (CR CX outer P w H s Q E) s := by
  obtain ⟨t, ht, hq⟩ := hbody
  have kin : K.In s.heap := e0.mod.kin.keeps fun b' o' z => (e0.bs b' o' z).1
  have nolim : s.heap.NoLimit := e0.mod.nolimit.keeps fun b' o' z => (e0.bs b' o' z).1
  have par : ∀ y ∈ ps.zip us, scope.names.lookup y.1 = some .local ∨ (scope.names.lookup y.1 = some .cell ∧ ((cellsFrom (s.heap.objs.size + 1) scope.names []).lookup y.1).isSome = true) := by
    rintro ⟨n, v⟩ hy
    rcases S.par n (List.of_mem_zip hy).1 with q | q
    · exact Or.inl q
    · exact Or.inr ⟨q, PySem.W.cellsFrom_some _ _ _ (Or.inl q)⟩
  refine codeAny_call_function hr.depth (kin _ _ lk) rfl S.co S.gen rfl (PySem.W.codeRec_of kin hcd) (hb _ _ _ _ ?_)
  refine wpAny_newFunctionEnv_cells S.kind par fun env he s1 x => ?_
  subst he
  refine ⟨nolim.keeps x.toInCall.keep, codeAny_func ?_⟩
  have J0 : Inv (cxOf CX P w K mg base N qual scope f cdv A outer s H E) [] (start N vs) H s1 := inv_start S hr.hd e0 hl r x
  refine wpAny_mono (ht.run [] s1 (start N vs) H _ J0 hq) (fun fl s' hs => ?_) (fun _ _ z => z)
  cases fl with
  | ret u =>
    obtain ⟨v, σ', H', J, rv, q⟩ := hs
    exact ⟨v, H', J.os, J.bare, J.base, J.hok, rv, q⟩
  | next =>
    obtain ⟨σ', H', J, q⟩ := hs
    exact ⟨V.non, H', J.os, J.bare, J.base, J.hok, rfl, q⟩
  | brk =>
    obtain ⟨_, _, _, z⟩ := hs
    exact z.elim
  | cont =>
    obtain ⟨_, _, _, z⟩ := hs
    exact z.elim
/-- what is tracked when the law is called: the table, and the script if nobody has it written -/
def hh (a T : Addr) (o : Obj) (xs : List V) (wr : Bool) : Hp := fun b => if b = T then some (.tbl #[]) else if b = a then (if wr then none else some (.frz o (.lst xs))) else none
section
variable {a T : Addr} {o : Obj} {xs : List V} {wr : Bool}
theorem hh_T : hh a T o xs wr T = some (.tbl #[]) := if_pos rfl
theorem hh_at (b : Addr) : (b = T ∧ hh a T o xs wr b = some (.tbl #[])) ∨ (b = a ∧ wr = false ∧ hh a T o xs wr b = some (.frz o (.lst xs))) ∨ hh a T o xs wr b = none := by
  unfold hh
  by_cases h1 : b = T
  · exact Or.inl ⟨h1, if_pos h1⟩
  · rw [if_neg h1]
    by_cases h2 : b = a
    · rw [if_pos h2]
      cases wr with
      | true => exact Or.inr (Or.inr rfl)
      | false => exact Or.inr (Or.inl ⟨h2, rfl, rfl⟩)
    · rw [if_neg h2]
      exact Or.inr (Or.inr rfl)
theorem hh_a (h : a ≠ T) : hh a T o xs false a = some (.frz o (.lst xs)) := by
  unfold hh
  rw [if_neg h, if_pos rfl]
  rfl
end
/-- the call of a law's def at callerA: F speaks of this one place -/
theorem own_call {P : Program} {w : World} {K : PySem.W.Frag} {mg mb : Str → Option Value} {fa a c T : Addr} {s₁ : Shared} {vs : List Value} {ns : List Int}
    (kx : K.In s₁.heap) (hng : s₁.heap.Ns mainGlobals mg) (hnb : s₁.heap.Ns builtinsNs mb) (boot : ∀ x : Str, x ≠ "__name__" → mb x = bootBuiltins x) (hlim : s₁.heap.NoLimit) (hg : s₁.gens = #[])
    (hT : s₁.heap.get? T = some { cls := .none, data := .fields #[] }) (nT : K.lookup T = none) (C : PySem.W.CodeHd s₁.heap c T)
    (hbm : ∃ (bm : Addr) (ob : Obj), mg "__builtins__" = some (.ref bm) ∧ bm ≠ builtinsNs ∧ s₁.heap.get? bm = some ob ∧ ob.cls = .type "module" ∧ ob.dict = some builtinsNs ∧ ob.data = .plain)
    (ha : s₁.heap.get? a = some { cls := .type "list", data := .seq vs.toArray }) (hi : IntsAre vs ns) (hl : ns.length ≤ sizeLine)
    (F : ∀ (base : Heap) (H : Hp), K.In base → base.Ns mainGlobals mg → TabB base mg c T → Env0 P w K mg base callerA [] s₁ H → H T = some (.tbl #[]) → SqL K H a (ns.map V.int) →
      codeAny (model P w) callerA (.call (.ref fa) ⟨[.ref a], []⟩) (CR CX0 [] P w H s₁ (fun v _ => v = .bl true) fun _ _ _ => False) s₁) :
    codeAny (model P w) callerA (.call (.ref fa) ⟨[.ref a], []⟩) (fun r s' => r = .ok (.ret (.bool true)) ∧ OldK s₁.heap s'.heap ∧ s'.os = s₁.os ∧ AllBare s'.gens) s₁ := by
  have rv := vals_ints hi
  have lenV := hi.length
  have aT : a ≠ T := by
    rintro rfl
    rw [hT] at ha
    have z : Data.fields #[] = Data.seq vs.toArray _ := congrArg Obj.data (Option.some.inj ha)
    cases z
  obtain ⟨wr, hwr⟩ : ∃ wr : Bool, wr = (K.lookup a).isSome := ⟨_, rfl⟩
  obtain ⟨H, hH⟩ : ∃ H : Hp, H = hh a T { cls := .type "list", data := .seq vs.toArray } (ns.map V.int) wr := ⟨_, rfl⟩
  have at_ : ∀ b, (b = T ∧ H b = some (.tbl #[])) ∨ (b = a ∧ wr = false ∧ H b = some (.frz { cls := .type "list", data := .seq vs.toArray } (.lst (ns.map V.int)))) ∨ H b = none := fun b => by
    rw [hH]; exact hh_at b
  have tT : H T = some (.tbl #[]) := by rw [hH]; exact hh_T
  have noA : wr = false → K.lookup a = none := fun e => by
    rw [hwr] at e
    cases q : K.lookup a with
    | none => rfl
    | some o => rw [q] at e; cases e
  have sq : SqL K H a (ns.map V.int) := by
    cases q : K.lookup a with
    | some o =>
      have e := kx a o q
      rw [ha] at e
      cases e
      exact Or.inr ⟨_, vs.toArray, _, q, rfl, rfl, rfl, by rw [List.size_toArray, lenV]; exact hl, by simpa using rv⟩
    | none =>
      have ew : wr = false := by rw [hwr, q]; rfl
      refine Or.inl (Or.inr ⟨{ cls := .type "list", data := .seq vs.toArray }, ?_⟩)
      rw [hH, ew]
      exact hh_a aT
  -- what is not a list and not the table's empty object is not tracked
  have free_ : ∀ {b : Addr} {o : Obj}, s₁.heap.get? b = some o → (∀ us n, o.data ≠ .seq us n) → o.data ≠ .fields #[] → H b = none := fun {b o} e h1 h2 => by
    rcases at_ b with ⟨rfl, _⟩ | ⟨rfl, _, _⟩ | z
    · rw [hT] at e
      cases e
      exact (h2 rfl).elim
    · rw [ha] at e
      cases e
      exact (h1 _ _ rfl).elim
    · exact z
  have low : ∀ {b : Addr} {o : Obj}, s₁.heap.get? b = some o → H b = none → (hidT s₁.heap H).get? b = some o := fun e n => hidT_get e n
  have nsK : ∀ {b : Addr} {m : Str → Option Value}, s₁.heap.Ns b m → (hidT s₁.heap H).Ns b m := fun {b m} z => by
    obtain ⟨o, es, ep, e, d, r⟩ := z
    refine ⟨o, es, ep, low e (free_ e (fun us n y => ?_) fun y => ?_), d, r⟩ <;> (rw [d] at y; cases y)
  have kb : K.In (hidT s₁.heap H) := fun b o e => low (kx b o e) (by
    rcases at_ b with ⟨rfl, _⟩ | ⟨rfl, ew, _⟩ | z
    · rw [nT] at e; cases e
    · rw [noA ew] at e; cases e
    · exact z)
  have hM : L2.Mod K mg (hidT s₁.heap H) := by
    obtain ⟨mc, l1, l2⟩ := hlim
    exact ⟨kb, nsK hng, ⟨mb, nsK hnb, boot⟩, mc, nsK l1, l2⟩
  have TB : TabB (hidT s₁.heap H) mg c T := by
    refine ⟨?_, ?_, fun z => ?_⟩
    · obtain ⟨o, us, file, tf, flags, tg, inF, text, tt, e1, r1, r2, r3, rest⟩ := C
      refine ⟨o, us, file, tf, flags, tg, inF, text, tt, low e1 (free_ e1 (fun vs' n y => ?_) fun y => ?_), r1, r2, r3, rest⟩
      · rw [r2] at y; cases y
      · rw [r2] at y
        cases y
        simp at r3
    · obtain ⟨bm, ob, b1, b2, b3, b4, b5, b6⟩ := hbm
      have nG : bm ≠ mainGlobals := fun q => by
        obtain ⟨o, es, ep, e, hd, _⟩ := hng
        rw [q, e] at b3
        cases b3
        rw [hd] at b6; cases b6
      have nP : bm ≠ T := fun q => by
        rw [q, hT] at b3
        cases b3; cases b6
      refine ⟨bm, ob, b1, b2, nG, nP, low b3 (free_ b3 (fun us n y => ?_) fun y => ?_), b4, b5, b6⟩ <;> (rw [b6] at y; cases y)
    · obtain ⟨o, es, ep, e, hd, _⟩ := hng
      rw [z, hT] at e
      cases e; cases hd
  have hok : HOk P w H s₁.heap := fun b u z => by
    rcases at_ b with ⟨rfl, y⟩ | ⟨rfl, _, y⟩ | y
    · rw [y] at z; cases z
      exact hT
    · rw [y] at z; cases z
      exact ⟨ha, by rw [List.length_map]; exact hl, vs, _, rv, ha⟩
    · rw [y] at z; cases z
  have e0 : Env0 P w K mg (hidT s₁.heap H) callerA [] s₁ H := by
    refine ⟨rfl, hM, fun b o e => of_hidT e, Nat.le_of_eq (hidT_size _ _), trivial, fun b hb => ?_, hok, .of_eq hg⟩
    exact absurd (show b ∈ ([] : List Addr) from hb) (by simp)
  refine codeAny_mono (F _ H kb (nsK hng) TB e0 tT sq) fun r s' z => ?_
  cases r with
  | error e => exact False.elim z
  | ok fl =>
    cases fl with
    | next => exact z.elim
    | brk => exact z.elim
    | cont => exact z.elim
    | ret u =>
      obtain ⟨v, H', os, bare, un, hok', rr, q⟩ := z
      have q' : v = .bl true := q
      subst q'
      obtain rfl : u = Value.bool true := rr
      have key : ∀ b o, b ≠ T → s₁.heap.get? b = some o → s'.heap.get? b = some o := fun b o nb e => by
        rcases at_ b with ⟨y, _⟩ | ⟨_, _, y⟩ | y
        · exact absurd y nb
        · obtain ⟨g1, _⟩ := hok b _ y
          obtain ⟨g2, _⟩ := hok' b _ (un.frzs b _ _ y)
          rw [e] at g1
          cases g1
          exact g2
        · exact un.keep b o e y (fun z => absurd (show b ∈ ([] : List Addr) from z) (by simp)) (by simp)
      obtain ⟨more, hm⟩ : ∃ more : Array Value, s'.heap.get? T = some { cls := .none, data := .fields more } := by
        obtain ⟨more, y⟩ := un.tbls T #[] tT
        exact ⟨_, hok' T _ y⟩
      refine ⟨rfl, ⟨fun b o e => ?_, fun b o e => ?_⟩, os, bare⟩
      · by_cases hb : b = T
        · subst hb
          rw [hT] at e
          cases e
          exact Or.inr (Or.inl ⟨(C.tab hT).isCodeTable, rfl, #[], more, rfl, by rw [Array.empty_append]; exact hm⟩)
        · exact Or.inl (key b o hb e)
      · by_cases hb : b = T
        · subst hb
          exact ⟨_, hm⟩
        · exact ⟨o, key b o hb e⟩
/-- what is known at the head's heap -/
def At1 (l : PySem.W.OpenLaw) (w : World) (K : PySem.W.Frag) (n : Nat) (mg : Str → Option Value) (fa : Addr) (h : Heap) : Prop :=
  ∃ c T : Addr, h.get? T = some { cls := .none, data := .fields #[] } ∧ K.lookup T = none ∧ PySem.W.CodeHd h c T ∧
    ∀ (base : Heap) (s : Shared) (H : Hp) (a : Addr) (ns : List Int), ns.length ≤ n → (∀ z ∈ ns, Builtin.Int.intBits z ≤ 1048576) → K.In base → base.Ns mainGlobals mg → TabB base mg c T → Env0 l.prog w K mg base callerA [] s H → H T = some (.tbl #[]) → SqL K H a (ns.map V.int) →
      codeAny (model l.prog w) callerA (.call (.ref fa) ⟨[.ref a], []⟩) (CR CX0 [] l.prog w H s (fun v _ => v = .bl true) fun _ _ _ => False) s
theorem own_walk {l : PySem.W.OpenLaw} {n : Nat} {q : Program} {loose : List Str} {XP : (Str → Option Value) → Heap → Prop} {YP : World → Heap → Prop} {d : DefRec} (hn : l.most = some n) (hn2 : n ≤ sizeLine) (hdf : d.params.defaults = [])
    (F : ∀ (w : World) (mg : Str → Option Value) (fa : Addr) (h : Heap), YP w h → h.Ns mainGlobals mg → mg d.name = some (.ref fa) → ∃ K : PySem.W.Frag, K.In h ∧ At1 l w K n mg fa h) : PySem.W.WalkO q loose XP YP l.row.toRowW d [] (fun f vs => PySem.call f vs) := by
  refine Att.attach_callB hn hdf fun w s₀ s₁ mg mb fa o pm cd doc a vs ns G Y ho hd hcd hmg hobj hints hlen hbits hg => ?_
  obtain ⟨K, kx, c, T, hT, nT, C, hF⟩ := F w mg fa _ Y G.T.g hmg
  exact own_call kx G.T.g G.T.b G.T.builtins G.T.nolimit hg hT nT C G.T.bmain hobj hints (Nat.le_trans hlen hn2) fun base H k1 k2 tb e0 tT sq => hF base s₁ H a ns hlen hbits k1 k2 tb e0 tT sq
end NvE
set_option Elab.async false
set_option linter.all false
set_option maxRecDepth 100000
set_option maxHeartbeats 1000000
/-! The defs of the package and of the law, level by level. -/
namespace NvK
open PySem PySem.W PySem.Spec PyProof.Rows PySem.HandSPX
section
variable {P : Program} {w : World} {K : Frag} {mg : Str → Option Value} {base : Heap} {CX : L2.CXT} {k j : Nat} {x : Str} {ps : List Str} {sp : L2.Sp} {C : Addr}
theorem cal_up (c : Nv.Cal P w K mg base CX j x ps sp) (h : j ≤ k) : Nv.Cal P w K mg base CX k x ps sp := by
  obtain ⟨f, fd, h1, h2, h3, h4⟩ := c.ex
  exact ⟨f, fd, h1, h2, h3, h4.mono h⟩
theorem met_up (c : Nv.Met P w K mg base CX j C x ps sp) (h : j ≤ k) : Nv.Met P w K mg base CX k C x ps sp := by
  obtain ⟨f, fd, h1, h3, h4⟩ := c.ex
  exact ⟨f, fd, h1, h3, h4.mono h⟩
theorem ini_up (c : Nv.Ini P w K mg base CX j C ps sp) (h : j ≤ k) : Nv.Ini P w K mg base CX k C ps sp := by
  obtain ⟨f, fd, h1, h2, i, rfl, h4⟩ := c.ex
  exact ⟨f, fd, h1, h2, k - 1, by omega, h4.mono (by omega)⟩
theorem cmp_up (c : Nv.CmpO P w K mg base j C sp) (h : j ≤ k) : Nv.CmpO P w K mg base k C sp := by
  obtain ⟨f, fd, ps, i, h1, h2, rfl, h4⟩ := c.ex
  exact ⟨f, fd, ps, k - 1, h1, h2, by omega, h4.mono (by omega)⟩
theorem cald_up {dvs : List L2.V} (c : Nv.CalD P w K mg base CX j x ps dvs sp) (h : j ≤ k) : Nv.CalD P w K mg base CX k x ps dvs sp := by
  obtain ⟨f, fd, ds, h1, h2, h3, h4, h5⟩ := c.ex
  exact ⟨f, fd, ds, h1, h2, h3, h4, h5.mono h⟩
end
section
variable {w : World} {K : Frag} {mg : Str → Option Value} {h : Heap}
/-- a def of the module: where it stands -/
theorem def_of (S : SaysN w h K) (i : Nat) {x : Str} {df : List He.Dv} {st : Stmt} (hi : fnL[i]? = some (dD x df st) := by rfl) : ∃ fd, Nv.FnP K x x st (df.map (He.Dv.v K)) (He.ga K x) fd := S.x.t.d.def_ i (d := dD x df st) hi
theorem mdef_of (S : SaysN w h K) (i : Nat) {c x q : Str} {df : List He.Dv} {st : Stmt} (hi : fnL[i]? = some (dM c x df st) := by rfl) (hq : c ++ "." ++ x = q := by decide +kernel) : ∃ fd, Nv.FnP K x q st (df.map (He.Dv.v K)) (He.ma K (He.ga K c) x) fd := by
  subst hq
  exact S.x.t.d.def_ i (d := dM c x df st) hi
theorem cal_of (X : K.In h) (G : h.Ns mainGlobals mg) (S : SaysN w h K) {P : Program} {base : Heap} {CX : L2.CXT} {k : Nat} {x : Str} {st : Stmt} {ps : List Str} {sp : L2.Sp} {fd : FuncData} {dvs : List L2.V} (F : Nv.FnP K x x st dvs (He.ga K x) fd) (b : L2.Binds K fd ps []) (ok : L2.FnOk P w K mg base CX k (He.ga K x) fd ps sp) (hx : x ∈ gloL := by decide +kernel) : Nv.Cal P w K mg base CX k x ps sp :=
  ⟨_, fd, glo_of X G S hx, F.kp, b, ok⟩
theorem met_of (S : SaysN w h K) {P : Program} {base : Heap} {CX : L2.CXT} {k : Nat} {c x : Str} {C : Addr} {ps : List Str} {sp : L2.Sp} {fd : FuncData} (hA : C = He.ga K c) (b : L2.Binds K fd ps []) (ok : L2.FnOk P w K mg base CX k (He.ma K (He.ga K c) x) fd ps sp) (hx : (c, x) ∈ methL := by decide +kernel) : Nv.Met P w K mg base CX k C x ps sp := by
  rw [hA]
  exact ⟨_, fd, meth_of S hx, b, ok⟩
open Nv L2
/-- the copy of nested data, so deep -/
theorem fixed_of {A : Ads} {base : Heap} (X : K.In h) (G : h.Ns mainGlobals mg) (S : SaysN w h K) (Z : Fx A w K mg) : ∀ n : Nat, Cal PR w K mg base CX0 (n + 1) "fixed" ["value"] (spFixed K n)
  | 0 => by
    obtain ⟨_, F⟩ := def_of S 7 (x := "fixed") (df := []) (st := st_fixed)
    refine cal_of X G S F (F.bindsN fun _ _ _ _ _ _ us hl => match us, hl with | [_], _ => rfl) ⟨fun vs H Q E z => z.len, fun A' outer s H args us vs Q E hr he hb hv hs => ?_⟩
    obtain ⟨_, _, _, _, _, ⟨d, _, _, hd⟩, _⟩ := hs
    exact absurd hd (Nat.not_lt_zero _)
  | n + 1 => by
    obtain ⟨_, F⟩ := def_of S 7 (x := "fixed") (df := []) (st := st_fixed)
    exact cal_of X G S F (F.bindsN fun _ _ _ _ _ _ us hl => match us, hl with | [_], _ => rfl) (wk_fixed Z.B Z.BH Z.T (fixed_of X G S Z n) F (fun vs H Q E z => z.len) fun vs H Q E z => pr_fixed n vs H Q E z)
theorem f_is_integer {A : Ads} {base : Heap} (X : K.In h) (G : h.Ns mainGlobals mg) (S : SaysN w h K) (Z : Fx A w K mg) : Cal PR w K mg base CX0 1 "is_integer" ["value"] (spInteger K) := by
  obtain ⟨_, F⟩ := def_of S 0 (x := "is_integer") (df := []) (st := st_is_integer)
  exact cal_of X G S F (F.bindsN fun _ _ _ _ _ _ us hl => match us, hl with | [_], _ => rfl) (wk_is_integer Z.B Z.BH Z.T  F (fun vs H Q E z => z.len) fun vs H Q E z => pr_integer  vs H Q E z)
theorem f_is_listed {A : Ads} {base : Heap} (X : K.In h) (G : h.Ns mainGlobals mg) (S : SaysN w h K) (Z : Fx A w K mg) : Cal PR w K mg base CX0 1 "is_listed" ["value"] (spListed K) := by
  obtain ⟨_, F⟩ := def_of S 2 (x := "is_listed") (df := []) (st := st_is_listed)
  exact cal_of X G S F (F.bindsN fun _ _ _ _ _ _ us hl => match us, hl with | [_], _ => rfl) (wk_is_listed Z.B Z.BH Z.T  F (fun vs H Q E z => z.len) fun vs H Q E z => pr_listed  vs H Q E z)
theorem f_is_word {A : Ads} {base : Heap} (X : K.In h) (G : h.Ns mainGlobals mg) (S : SaysN w h K) (Z : Fx A w K mg) : Cal PR w K mg base CX0 1 "is_word" ["value", "words"] (spWord K) := by
  obtain ⟨_, F⟩ := def_of S 4 (x := "is_word") (df := []) (st := st_is_word)
  exact cal_of X G S F (F.bindsN fun _ _ _ _ _ _ us hl => match us, hl with | [_, _], _ => rfl) (wk_is_word Z.B Z.BH Z.T  F (fun vs H Q E z => z.len) fun vs H Q E z => pr_word  vs H Q E z)
theorem f_need_parts {A : Ads} {base : Heap} (X : K.In h) (G : h.Ns mainGlobals mg) (S : SaysN w h K) (Z : Fx A w K mg) : Cal PR w K mg base (CX PR w) 1 "need_parts" ["rows"] (spNeedParts K) := by
  obtain ⟨_, F⟩ := def_of S 11 (x := "need_parts") (df := []) (st := st_need_parts)
  exact cal_of X G S F (F.bindsN fun _ _ _ _ _ _ us hl => match us, hl with | [_], _ => rfl) (wk_need_parts Z.B Z.BH Z.T  F (fun vs H Q E z => z.len) fun vs H Q E z => pr_needparts  vs H Q E z)
theorem f_misfit_of {A : Ads} {base : Heap} (X : K.In h) (G : h.Ns mainGlobals mg) (S : SaysN w h K) (Z : Fx A w K mg) : Cal PR w K mg base CX0 1 "misfit_of" ["house"] (spMisfit K A) := by
  obtain ⟨_, F⟩ := def_of S 12 (x := "misfit_of") (df := []) (st := st_misfit_of)
  exact cal_of X G S F (F.bindsN fun _ _ _ _ _ _ us hl => match us, hl with | [_], _ => rfl) (wk_misfit_of Z.B Z.BH Z.T  F (fun vs H Q E z => by obtain ⟨_, _, _, rfl, _⟩ := z; rfl) fun vs H Q E z => pr_misfit Z.X Z.Y vs H Q E z)
theorem f_House_row {A : Ads} {base : Heap} (X : K.In h) (G : h.Ns mainGlobals mg) (S : SaysN w h K) (Z : Fx A w K mg) : Met PR w K mg base CX0 1 A.cHouse "row" ["self"] (spRow K A) := by
  obtain ⟨_, F⟩ := mdef_of S 44 (c := "House") (x := "row") (q := "House.row") (df := []) (st := st_House_row)
  exact met_of S Z.house (F.bindsN fun _ _ _ _ _ _ us hl => match us, hl with | [_], _ => rfl) (wk_House_row Z.B Z.BH Z.T  F (fun vs H Q E z => by obtain ⟨_, _, _, rfl, _⟩ := z; rfl) fun vs H Q E z => pr_row Z.X vs H Q E z)
theorem f_need_house {A : Ads} {base : Heap} (X : K.In h) (G : h.Ns mainGlobals mg) (S : SaysN w h K) (Z : Fx A w K mg) : CalD PR w K mg base (CX PR w) 1 "need_house" ["value", "part"] [.str "house"] (spNeedHouse K A) := by
  obtain ⟨_, F⟩ := def_of S 13 (x := "need_house") (df := [.str "house"]) (st := st_need_house)
  obtain ⟨ds, r, b⟩ := F.binds1 (ps := ["value", "part"]) 1 0 (by simp) rfl fun _ _ _ _ _ _ _ us its hu hi => match us, its, hu, hi with | [_], [_], _, _ => ⟨_, rfl, rfl⟩
  exact ⟨_, _, ds, glo_of X G S, F.kp, r, b, (wk_need_house Z.B Z.BH Z.T  F (fun vs H Q E z => by obtain ⟨_, _, _, rfl, _⟩ := z; rfl) fun vs H Q E z => pr_needhouse Z.X vs H Q E z)⟩
theorem f_is_figure {A : Ads} {base : Heap} (X : K.In h) (G : h.Ns mainGlobals mg) (S : SaysN w h K) (Z : Fx A w K mg) : Cal PR w K mg base CX0 1 "is_figure" ["word", "least", "most"] (spFigure K) := by
  obtain ⟨_, F⟩ := def_of S 14 (x := "is_figure") (df := []) (st := st_is_figure)
  exact cal_of X G S F (F.bindsN fun _ _ _ _ _ _ us hl => match us, hl with | [_, _, _], _ => rfl) (wk_is_figure Z.B Z.BH Z.T  F (fun vs H Q E z => z.len) fun vs H Q E z => pr_figure  vs H Q E z)
theorem f_Scan___init__ {A : Ads} {base : Heap} (X : K.In h) (G : h.Ns mainGlobals mg) (S : SaysN w h K) (Z : Fx A w K mg) : Ini PR w K mg base CX0 2 A.cScan ["self", "lines"] (spInit K A) := by
  obtain ⟨_, F⟩ := mdef_of S 45 (c := "Scan") (x := "__init__") (q := "Scan.__init__") (df := []) (st := st_Scan___init__)
  rw [Z.scan]
  exact ⟨_, _, He.mkr_ok (x := "Scan") (last_of S), (F.bindsN fun _ _ _ _ _ _ us hl => match us, hl with | [_, _], _ => rfl), 1, rfl, (wk_Scan___init__ Z.B Z.BH Z.T  F (fun vs H Q E z => by obtain ⟨_, _, _, _, _, rfl, _⟩ := z; rfl) fun vs H Q E z => pr_init Z.S vs H Q E z)⟩
theorem f_Scan_is_over {A : Ads} {base : Heap} (X : K.In h) (G : h.Ns mainGlobals mg) (S : SaysN w h K) (Z : Fx A w K mg) : Met PR w K mg base CX0 1 A.cScan "is_over" ["self"] (spOver K A) := by
  obtain ⟨_, F⟩ := mdef_of S 46 (c := "Scan") (x := "is_over") (q := "Scan.is_over") (df := []) (st := st_Scan_is_over)
  exact met_of S Z.scan (F.bindsN fun _ _ _ _ _ _ us hl => match us, hl with | [_], _ => rfl) (wk_Scan_is_over Z.B Z.BH Z.T  F (fun vs H Q E z => by obtain ⟨_, _, _, _, _, rfl, _⟩ := z; rfl) fun vs H Q E z => pr_over Z.S vs H Q E z)
theorem f_Scan_stop {A : Ads} {base : Heap} (X : K.In h) (G : h.Ns mainGlobals mg) (S : SaysN w h K) (Z : Fx A w K mg) : Met PR w K mg base (CX PR w) 1 A.cScan "stop" ["self"] (spStop K A) := by
  obtain ⟨_, F⟩ := mdef_of S 48 (c := "Scan") (x := "stop") (q := "Scan.stop") (df := []) (st := st_Scan_stop)
  exact met_of S Z.scan (F.bindsN fun _ _ _ _ _ _ us hl => match us, hl with | [_], _ => rfl) (wk_Scan_stop Z.B Z.BH Z.T  F (fun vs H Q E z => by obtain ⟨_, _, _, _, _, rfl, _⟩ := z; rfl) fun vs H Q E z => pr_stop Z.S vs H Q E z)
theorem f_kind_words {A : Ads} {base : Heap} (X : K.In h) (G : h.Ns mainGlobals mg) (S : SaysN w h K) (Z : Fx A w K mg) : Cal PR w K mg base CX0 1 "kind_words" ["kind"] (spKindW K) := by
  obtain ⟨_, F⟩ := def_of S 16 (x := "kind_words") (df := []) (st := st_kind_words)
  exact cal_of X G S F (F.bindsN fun _ _ _ _ _ _ us hl => match us, hl with | [_], _ => rfl) (wk_kind_words Z.B Z.BH Z.T  F (fun vs H Q E z => by obtain ⟨_, _, _, _, rfl, _⟩ := z; rfl) fun vs H Q E z => pr_kindw  vs H Q E z)
theorem f_collector_words {A : Ads} {base : Heap} (X : K.In h) (G : h.Ns mainGlobals mg) (S : SaysN w h K) (Z : Fx A w K mg) : Cal PR w K mg base CX0 1 "collector_words" ["collector"] (spCollW K) := by
  obtain ⟨_, F⟩ := def_of S 17 (x := "collector_words") (df := []) (st := st_collector_words)
  exact cal_of X G S F (F.bindsN fun _ _ _ _ _ _ us hl => match us, hl with | [_], _ => rfl) (wk_collector_words Z.B Z.BH Z.T  F (fun vs H Q E z => z.len) fun vs H Q E z => pr_collw  vs H Q E z)
theorem f_kinds_ahead {A : Ads} {base : Heap} (X : K.In h) (G : h.Ns mainGlobals mg) (S : SaysN w h K) (Z : Fx A w K mg) : Cal PR w K mg base CX0 1 "kinds_ahead" ["scan"] (spKAhead K A) := by
  obtain ⟨_, F⟩ := def_of S 25 (x := "kinds_ahead") (df := []) (st := st_kinds_ahead)
  exact cal_of X G S F (F.bindsN fun _ _ _ _ _ _ us hl => match us, hl with | [_], _ => rfl) (wk_kinds_ahead Z.B Z.BH Z.T  F (fun vs H Q E z => by obtain ⟨_, _, _, _, _, rfl, _⟩ := z; rfl) fun vs H Q E z => pr_kahead Z.S vs H Q E z)
theorem f_law_pen {A : Ads} {base : Heap} (X : K.In h) (G : h.Ns mainGlobals mg) (S : SaysN w h K) (Z : Fx A w K mg) : Cal PR w K mg base CX0 1 "_law_pen" ["script"] (spPen K) := by
  obtain ⟨_, F⟩ := def_of S 33 (x := "_law_pen") (df := []) (st := st_law_pen)
  exact cal_of X G S F (F.bindsN fun _ _ _ _ _ _ us hl => match us, hl with | [_], _ => rfl) (wk_law_pen Z.B Z.BH Z.T  F (fun vs H Q E z => by obtain ⟨_, _, rfl, _⟩ := z; rfl) fun vs H Q E z => pr_pen  vs H Q E z)
theorem f_law_draw {A : Ads} {base : Heap} (X : K.In h) (G : h.Ns mainGlobals mg) (S : SaysN w h K) (Z : Fx A w K mg) : Cal PR w K mg base CX0 1 "_law_draw" ["pen", "most"] (spDraw K) := by
  obtain ⟨_, F⟩ := def_of S 34 (x := "_law_draw") (df := []) (st := st_law_draw)
  exact cal_of X G S F (F.bindsN fun _ _ _ _ _ _ us hl => match us, hl with | [_, _], _ => rfl) (wk_law_draw Z.B Z.BH Z.T  F (fun vs H Q E z => by obtain ⟨_, _, _, _, rfl, _⟩ := z; rfl) fun vs H Q E z => pr_draw  vs H Q E z)
theorem f_law_house_lines {A : Ads} {base : Heap} (X : K.In h) (G : h.Ns mainGlobals mg) (S : SaysN w h K) (Z : Fx A w K mg) : Cal PR w K mg base CX0 1 "_law_house_lines" ["plain"] (spHLines K) := by
  obtain ⟨_, F⟩ := def_of S 40 (x := "_law_house_lines") (df := []) (st := st_law_house_lines)
  exact cal_of X G S F (F.bindsN fun _ _ _ _ _ _ us hl => match us, hl with | [_], _ => rfl) (wk_law_house_lines Z.B Z.BH Z.T  F (fun vs H Q E z => by obtain ⟨_, _, _, rfl, _⟩ := z; rfl) fun vs H Q E z => pr_hlines  vs H Q E z)
theorem f_is_within {A : Ads} {base : Heap} (X : K.In h) (G : h.Ns mainGlobals mg) (S : SaysN w h K) (Z : Fx A w K mg) : Cal PR w K mg base CX0 2 "is_within" ["value", "least", "most"] (spWithin K) := by
  obtain ⟨_, F⟩ := def_of S 1 (x := "is_within") (df := []) (st := st_is_within)
  exact cal_of X G S F (F.bindsN fun _ _ _ _ _ _ us hl => match us, hl with | [_, _, _], _ => rfl) (wk_is_within Z.B Z.BH Z.T (cal_up (f_is_integer X G S Z) (by decide)) F (fun vs H Q E z => z.len) fun vs H Q E z => pr_within  vs H Q E z)
theorem f_is_word_lot {A : Ads} {base : Heap} (X : K.In h) (G : h.Ns mainGlobals mg) (S : SaysN w h K) (Z : Fx A w K mg) : Cal PR w K mg base CX0 2 "is_word_lot" ["value", "words"] (spWordLot K) := by
  obtain ⟨_, F⟩ := def_of S 5 (x := "is_word_lot") (df := []) (st := st_is_word_lot)
  exact cal_of X G S F (F.bindsN fun _ _ _ _ _ _ us hl => match us, hl with | [_, _], _ => rfl) (wk_is_word_lot Z.B Z.BH Z.T (cal_up (f_is_listed X G S Z) (by decide)) (cal_up (f_is_word X G S Z) (by decide)) F (fun vs H Q E z => z.len) fun vs H Q E z => pr_wordlot  vs H Q E z)
theorem f_is_plain_tuple {A : Ads} {base : Heap} (X : K.In h) (G : h.Ns mainGlobals mg) (S : SaysN w h K) (Z : Fx A w K mg) : Cal PR w K mg base CX0 2 "is_plain_tuple" ["value", "many"] (spPlainTuple K) := by
  obtain ⟨_, F⟩ := def_of S 6 (x := "is_plain_tuple") (df := []) (st := st_is_plain_tuple)
  exact cal_of X G S F (F.bindsN fun _ _ _ _ _ _ us hl => match us, hl with | [_, _], _ => rfl) (wk_is_plain_tuple Z.B Z.BH Z.T (cal_up (f_is_listed X G S Z) (by decide)) F (fun vs H Q E z => z.len) fun vs H Q E z => pr_plain  vs H Q E z)
theorem f_House___eq__ {A : Ads} {base : Heap} (X : K.In h) (G : h.Ns mainGlobals mg) (S : SaysN w h K) (Z : Fx A w K mg) : CmpO PR w K mg base 3 A.cHouse (spEqH K A) := by
  obtain ⟨_, F⟩ := mdef_of S 43 (c := "House") (x := "__eq__") (q := "House.__eq__") (df := []) (st := st_House___eq__)
  rw [Z.house]
  exact ⟨_, _, _, 2, own_of S, (F.bindsN fun _ _ _ _ _ _ us hl => match us, hl with | [_, _], _ => rfl), rfl, (wk_House___eq__ Z.B Z.BH Z.T (met_up (f_House_row X G S Z) (by decide)) F (fun vs H Q E z => by obtain ⟨_, _, _, _, _, rfl, _⟩ := z; rfl) fun vs H Q E z => pr_eqH Z.X vs H Q E z)⟩
theorem f_Scan_ahead {A : Ads} {base : Heap} (X : K.In h) (G : h.Ns mainGlobals mg) (S : SaysN w h K) (Z : Fx A w K mg) : Met PR w K mg base CX0 2 A.cScan "ahead" ["self"] (spAhead K A) := by
  obtain ⟨_, F⟩ := mdef_of S 47 (c := "Scan") (x := "ahead") (q := "Scan.ahead") (df := []) (st := st_Scan_ahead)
  exact met_of S Z.scan (F.bindsN fun _ _ _ _ _ _ us hl => match us, hl with | [_], _ => rfl) (wk_Scan_ahead Z.B Z.BH Z.T (met_up (f_Scan_is_over X G S Z) (by decide)) F (fun vs H Q E z => by obtain ⟨_, _, _, _, _, rfl, _⟩ := z; rfl) fun vs H Q E z => pr_ahead Z.S vs H Q E z)
theorem f_Scan_finish {A : Ads} {base : Heap} (X : K.In h) (G : h.Ns mainGlobals mg) (S : SaysN w h K) (Z : Fx A w K mg) : Met PR w K mg base (CX PR w) 2 A.cScan "finish" ["self"] (spFinish K A) := by
  obtain ⟨_, F⟩ := mdef_of S 52 (c := "Scan") (x := "finish") (q := "Scan.finish") (df := []) (st := st_Scan_finish)
  exact met_of S Z.scan (F.bindsN fun _ _ _ _ _ _ us hl => match us, hl with | [_], _ => rfl) (wk_Scan_finish Z.B Z.BH Z.T (met_up (f_Scan_is_over X G S Z) (by decide)) (met_up (f_Scan_stop X G S Z) (by decide)) F (fun vs H Q E z => by obtain ⟨_, _, _, _, rfl, _⟩ := z; rfl) fun vs H Q E z => pr_finish (spStop K A) vs H Q E z)
theorem f_house_rows {A : Ads} {base : Heap} (X : K.In h) (G : h.Ns mainGlobals mg) (S : SaysN w h K) (Z : Fx A w K mg) : Cal PR w K mg base CX0 2 "house_rows" ["house"] (spRows K A) := by
  obtain ⟨_, F⟩ := def_of S 18 (x := "house_rows") (df := []) (st := st_house_rows)
  exact cal_of X G S F (F.bindsN fun _ _ _ _ _ _ us hl => match us, hl with | [_], _ => rfl) (wk_house_rows Z.B Z.BH Z.T (cal_up (f_kind_words X G S Z) (by decide)) (cal_up (f_collector_words X G S Z) (by decide)) F (fun vs H Q E z => by obtain ⟨_, _, _, rfl, _⟩ := z; rfl) fun vs H Q E z => pr_rows Z.X Z.Y vs H Q E z)
theorem f_law_pick {A : Ads} {base : Heap} (X : K.In h) (G : h.Ns mainGlobals mg) (S : SaysN w h K) (Z : Fx A w K mg) : Cal PR w K mg base CX0 2 "_law_pick" ["pen", "some"] (spPick K) := by
  obtain ⟨_, F⟩ := def_of S 35 (x := "_law_pick") (df := []) (st := st_law_pick)
  exact cal_of X G S F (F.bindsN fun _ _ _ _ _ _ us hl => match us, hl with | [_, _], _ => rfl) (wk_law_pick Z.B Z.BH Z.T (cal_up (f_law_draw X G S Z) (by decide)) F (fun vs H Q E z => by obtain ⟨_, _, _, _, _, rfl, _⟩ := z; rfl) fun vs H Q E z => pr_pick  vs H Q E z)
theorem f_law_lot {A : Ads} {base : Heap} (X : K.In h) (G : h.Ns mainGlobals mg) (S : SaysN w h K) (Z : Fx A w K mg) : Cal PR w K mg base CX0 2 "_law_lot" ["pen", "some", "many"] (spLLot K) := by
  obtain ⟨_, F⟩ := def_of S 36 (x := "_law_lot") (df := []) (st := st_law_lot)
  exact cal_of X G S F (F.bindsN fun _ _ _ _ _ _ us hl => match us, hl with | [_, _, _], _ => rfl) (wk_law_lot Z.B Z.BH Z.T (cal_up (f_law_draw X G S Z) (by decide)) F (fun vs H Q E z => by obtain ⟨_, _, _, _, _, _, _, rfl, _⟩ := z; rfl) fun vs H Q E z => pr_llot  vs H Q E z)
theorem f_is_lot {A : Ads} {base : Heap} (X : K.In h) (G : h.Ns mainGlobals mg) (S : SaysN w h K) (Z : Fx A w K mg) : Cal PR w K mg base CX0 3 "is_lot" ["value", "least", "most"] (spLot K) := by
  obtain ⟨_, F⟩ := def_of S 3 (x := "is_lot") (df := []) (st := st_is_lot)
  exact cal_of X G S F (F.bindsN fun _ _ _ _ _ _ us hl => match us, hl with | [_, _, _], _ => rfl) (wk_is_lot Z.B Z.BH Z.T (cal_up (f_is_listed X G S Z) (by decide)) (cal_up (f_is_within X G S Z) (by decide)) F (fun vs H Q E z => z.len) fun vs H Q E z => pr_lot  vs H Q E z)
theorem f_is_collector {A : Ads} {base : Heap} (X : K.In h) (G : h.Ns mainGlobals mg) (S : SaysN w h K) (Z : Fx A w K mg) : Cal PR w K mg base CX0 3 "is_collector" ["value"] (spColl K) := by
  obtain ⟨_, F⟩ := def_of S 10 (x := "is_collector") (df := []) (st := st_is_collector)
  exact cal_of X G S F (F.bindsN fun _ _ _ _ _ _ us hl => match us, hl with | [_], _ => rfl) (wk_is_collector Z.B Z.BH Z.T (cal_up (f_is_listed X G S Z) (by decide)) (cal_up (f_is_word_lot X G S Z) (by decide)) (cal_up (f_is_within X G S Z) (by decide)) (cal_up (f_is_word X G S Z) (by decide)) F (fun vs H Q E z => z.len) fun vs H Q E z => pr_coll Z.Y vs H Q E z)
theorem f_Scan_take_of {A : Ads} {base : Heap} (X : K.In h) (G : h.Ns mainGlobals mg) (S : SaysN w h K) (Z : Fx A w K mg) : Met PR w K mg base (CX PR w) 3 A.cScan "take_of" ["self", "words"] (spTakeOf K A) := by
  obtain ⟨_, F⟩ := mdef_of S 49 (c := "Scan") (x := "take_of") (q := "Scan.take_of") (df := []) (st := st_Scan_take_of)
  exact met_of S Z.scan (F.bindsN fun _ _ _ _ _ _ us hl => match us, hl with | [_, _], _ => rfl) (wk_Scan_take_of Z.B Z.BH Z.T (met_up (f_Scan_ahead X G S Z) (by decide)) (met_up (f_Scan_stop X G S Z) (by decide)) F (fun vs H Q E z => by obtain ⟨_, _, _, _, _, _, _, rfl, _⟩ := z; rfl) fun vs H Q E z => pr_takeof Z.S vs H Q E z)
theorem f_Scan_take_number {A : Ads} {base : Heap} (X : K.In h) (G : h.Ns mainGlobals mg) (S : SaysN w h K) (Z : Fx A w K mg) : Met PR w K mg base (CX PR w) 3 A.cScan "take_number" ["self", "least", "most"] (spTakeNum K A) := by
  obtain ⟨_, F⟩ := mdef_of S 50 (c := "Scan") (x := "take_number") (q := "Scan.take_number") (df := []) (st := st_Scan_take_number)
  exact met_of S Z.scan (F.bindsN fun _ _ _ _ _ _ us hl => match us, hl with | [_, _, _], _ => rfl) (wk_Scan_take_number Z.B Z.BH Z.T (met_up (f_Scan_ahead X G S Z) (by decide)) (cal_up (f_is_figure X G S Z) (by decide)) (met_up (f_Scan_stop X G S Z) (by decide)) F (fun vs H Q E z => by obtain ⟨_, _, _, _, _, _, _, rfl, _⟩ := z; rfl) fun vs H Q E z => pr_takenum Z.S vs H Q E z)
theorem f_Scan_end_line {A : Ads} {base : Heap} (X : K.In h) (G : h.Ns mainGlobals mg) (S : SaysN w h K) (Z : Fx A w K mg) : Met PR w K mg base (CX PR w) 3 A.cScan "end_line" ["self"] (spEndLine K A) := by
  obtain ⟨_, F⟩ := mdef_of S 51 (c := "Scan") (x := "end_line") (q := "Scan.end_line") (df := []) (st := st_Scan_end_line)
  exact met_of S Z.scan (F.bindsN fun _ _ _ _ _ _ us hl => match us, hl with | [_], _ => rfl) (wk_Scan_end_line Z.B Z.BH Z.T (met_up (f_Scan_ahead X G S Z) (by decide)) (met_up (f_Scan_is_over X G S Z) (by decide)) (met_up (f_Scan_stop X G S Z) (by decide)) F (fun vs H Q E z => by obtain ⟨_, _, _, _, _, rfl, _⟩ := z; rfl) fun vs H Q E z => pr_endline Z.S vs H Q E z)
theorem f_scan_of {A : Ads} {base : Heap} (X : K.In h) (G : h.Ns mainGlobals mg) (S : SaysN w h K) (Z : Fx A w K mg) : Cal PR w K mg base (CX PR w) 3 "scan_of" ["text"] (spScanOf K A) := by
  obtain ⟨_, F⟩ := def_of S 15 (x := "scan_of") (df := []) (st := st_scan_of)
  exact cal_of X G S F (F.bindsN fun _ _ _ _ _ _ us hl => match us, hl with | [_], _ => rfl) (wk_scan_of Z.B Z.BH Z.T (ini_up (f_Scan___init__ X G S Z) (by decide)) F (fun vs H Q E z => by obtain ⟨_, _, _, rfl, _⟩ := z; rfl) fun vs H Q E z => pr_scanof Z.S vs H Q E z)
theorem f_house_text {A : Ads} {base : Heap} (X : K.In h) (G : h.Ns mainGlobals mg) (S : SaysN w h K) (Z : Fx A w K mg) : Cal PR w K mg base (CX PR w) 3 "house_text" ["house"] (spHouseText K A) := by
  obtain ⟨_, F⟩ := def_of S 19 (x := "house_text") (df := []) (st := st_house_text)
  exact cal_of X G S F (F.bindsN fun _ _ _ _ _ _ us hl => match us, hl with | [_], _ => rfl) (wk_house_text Z.B Z.BH Z.T (cald_up (f_need_house X G S Z) (by decide)) (cal_up (f_house_rows X G S Z) (by decide)) F (fun vs H Q E z => by obtain ⟨_, _, rfl, _⟩ := z; rfl) fun vs H Q E z => pr_housetext  vs H Q E z)
theorem f_law_any_plain {A : Ads} {base : Heap} (X : K.In h) (G : h.Ns mainGlobals mg) (S : SaysN w h K) (Z : Fx A w K mg) : Cal PR w K mg base CX0 3 "_law_any_plain" ["pen"] (spAnyP K) := by
  obtain ⟨_, F⟩ := def_of S 38 (x := "_law_any_plain") (df := []) (st := st_law_any_plain)
  exact cal_of X G S F (F.bindsN fun _ _ _ _ _ _ us hl => match us, hl with | [_], _ => rfl) (wk_law_any_plain Z.B Z.BH Z.T (cal_up (f_law_draw X G S Z) (by decide)) (cal_up (f_law_lot X G S Z) (by decide)) (cal_up (f_law_pick X G S Z) (by decide)) F (fun vs H Q E z => by obtain ⟨_, _, _, rfl, _⟩ := z; rfl) fun vs H Q E z => pr_anyp  vs H Q E z)
theorem f_is_kind {A : Ads} {base : Heap} (X : K.In h) (G : h.Ns mainGlobals mg) (S : SaysN w h K) (Z : Fx A w K mg) : Cal PR w K mg base CX0 4 "is_kind" ["value", "many"] (spKind K) := by
  obtain ⟨_, F⟩ := def_of S 9 (x := "is_kind") (df := []) (st := st_is_kind)
  exact cal_of X G S F (F.bindsN fun _ _ _ _ _ _ us hl => match us, hl with | [_, _], _ => rfl) (wk_is_kind Z.B Z.BH Z.T (cal_up (f_is_plain_tuple X G S Z) (by decide)) (cal_up (f_is_within X G S Z) (by decide)) (cal_up (f_is_listed X G S Z) (by decide)) (cal_up (f_is_lot X G S Z) (by decide)) F (fun vs H Q E z => z.len) fun vs H Q E z => pr_kind  vs H Q E z)
theorem f_taken_after {A : Ads} {base : Heap} (X : K.In h) (G : h.Ns mainGlobals mg) (S : SaysN w h K) (Z : Fx A w K mg) : Cal PR w K mg base (CX PR w) 4 "taken_after" ["scan", "word", "least", "most"] (spAfter K A) := by
  obtain ⟨_, F⟩ := def_of S 20 (x := "taken_after") (df := []) (st := st_taken_after)
  exact cal_of X G S F (F.bindsN fun _ _ _ _ _ _ us hl => match us, hl with | [_, _, _, _], _ => rfl) (wk_taken_after Z.B Z.BH Z.T (met_up (f_Scan_take_of X G S Z) (by decide)) (met_up (f_Scan_take_number X G S Z) (by decide)) (met_up (f_Scan_end_line X G S Z) (by decide)) F (fun vs H Q E z => by obtain ⟨_, _, _, _, _, _, _, _, rfl, _⟩ := z; rfl) fun vs H Q E z => pr_after  vs H Q E z)
theorem f_taken_word {A : Ads} {base : Heap} (X : K.In h) (G : h.Ns mainGlobals mg) (S : SaysN w h K) (Z : Fx A w K mg) : Cal PR w K mg base (CX PR w) 4 "taken_word" ["scan", "word", "words"] (spTWord K A) := by
  obtain ⟨_, F⟩ := def_of S 21 (x := "taken_word") (df := []) (st := st_taken_word)
  exact cal_of X G S F (F.bindsN fun _ _ _ _ _ _ us hl => match us, hl with | [_, _, _], _ => rfl) (wk_taken_word Z.B Z.BH Z.T (met_up (f_Scan_take_of X G S Z) (by decide)) (met_up (f_Scan_end_line X G S Z) (by decide)) F (fun vs H Q E z => by obtain ⟨_, _, _, _, _, _, _, _, _, rfl, _⟩ := z; rfl) fun vs H Q E z => pr_tword  vs H Q E z)
theorem f_taken_lot {A : Ads} {base : Heap} (X : K.In h) (G : h.Ns mainGlobals mg) (S : SaysN w h K) (Z : Fx A w K mg) : Cal PR w K mg base (CX PR w) 4 "taken_lot" ["scan", "words"] (spTLot K A) := by
  obtain ⟨_, F⟩ := def_of S 22 (x := "taken_lot") (df := []) (st := st_taken_lot)
  exact cal_of X G S F (F.bindsN fun _ _ _ _ _ _ us hl => match us, hl with | [_, _], _ => rfl) (wk_taken_lot Z.B Z.BH Z.T (met_up (f_Scan_ahead X G S Z) (by decide)) (met_up (f_Scan_take_of X G S Z) (by decide)) F (fun vs H Q E z => by obtain ⟨_, _, _, _, _, _, _, _, _, rfl, _⟩ := z; rfl) fun vs H Q E z => pr_tlot  vs H Q E z)
theorem f_taken_link {A : Ads} {base : Heap} (X : K.In h) (G : h.Ns mainGlobals mg) (S : SaysN w h K) (Z : Fx A w K mg) : Cal PR w K mg base (CX PR w) 4 "taken_link" ["scan", "many"] (spTLink K A) := by
  obtain ⟨_, F⟩ := def_of S 23 (x := "taken_link") (df := []) (st := st_taken_link)
  exact cal_of X G S F (F.bindsN fun _ _ _ _ _ _ us hl => match us, hl with | [_, _], _ => rfl) (wk_taken_link Z.B Z.BH Z.T (cal_up (f_is_figure X G S Z) (by decide)) (met_up (f_Scan_ahead X G S Z) (by decide)) (met_up (f_Scan_take_number X G S Z) (by decide)) F (fun vs H Q E z => by obtain ⟨_, _, _, _, _, _, _, rfl, _⟩ := z; rfl) fun vs H Q E z => pr_tlink  vs H Q E z)
theorem f_taken_count {A : Ads} {base : Heap} (X : K.In h) (G : h.Ns mainGlobals mg) (S : SaysN w h K) (Z : Fx A w K mg) : Cal PR w K mg base (CX PR w) 4 "taken_count" ["scan"] (spCount K A) := by
  obtain ⟨_, F⟩ := def_of S 28 (x := "taken_count") (df := []) (st := st_taken_count)
  exact cal_of X G S F (F.bindsN fun _ _ _ _ _ _ us hl => match us, hl with | [_], _ => rfl) (wk_taken_count Z.B Z.BH Z.T (met_up (f_Scan_ahead X G S Z) (by decide)) (met_up (f_Scan_take_of X G S Z) (by decide)) (met_up (f_Scan_take_number X G S Z) (by decide)) F (fun vs H Q E z => by obtain ⟨_, _, _, _, _, _, rfl, _⟩ := z; rfl) fun vs H Q E z => pr_count  vs H Q E z)
theorem f_taken_pace {A : Ads} {base : Heap} (X : K.In h) (G : h.Ns mainGlobals mg) (S : SaysN w h K) (Z : Fx A w K mg) : Cal PR w K mg base (CX PR w) 4 "taken_pace" ["scan"] (spPace K A) := by
  obtain ⟨_, F⟩ := def_of S 29 (x := "taken_pace") (df := []) (st := st_taken_pace)
  exact cal_of X G S F (F.bindsN fun _ _ _ _ _ _ us hl => match us, hl with | [_], _ => rfl) (wk_taken_pace Z.B Z.BH Z.T (met_up (f_Scan_take_of X G S Z) (by decide)) (met_up (f_Scan_ahead X G S Z) (by decide)) (met_up (f_Scan_take_number X G S Z) (by decide)) (met_up (f_Scan_end_line X G S Z) (by decide)) F (fun vs H Q E z => by obtain ⟨_, _, _, _, _, rfl, _⟩ := z; rfl) fun vs H Q E z => pr_pace  vs H Q E z)
theorem f_taken_asked {A : Ads} {base : Heap} (X : K.In h) (G : h.Ns mainGlobals mg) (S : SaysN w h K) (Z : Fx A w K mg) : Cal PR w K mg base (CX PR w) 4 "taken_asked" ["scan"] (spAsked K A) := by
  obtain ⟨_, F⟩ := def_of S 30 (x := "taken_asked") (df := []) (st := st_taken_asked)
  exact cal_of X G S F (F.bindsN fun _ _ _ _ _ _ us hl => match us, hl with | [_], _ => rfl) (wk_taken_asked Z.B Z.BH Z.T (met_up (f_Scan_take_of X G S Z) (by decide)) (met_up (f_Scan_end_line X G S Z) (by decide)) F (fun vs H Q E z => by obtain ⟨_, _, _, _, _, rfl, _⟩ := z; rfl) fun vs H Q E z => pr_asked Z.Y vs H Q E z)
theorem f_are_kinds {A : Ads} {base : Heap} (X : K.In h) (G : h.Ns mainGlobals mg) (S : SaysN w h K) (Z : Fx A w K mg) : Cal PR w K mg base CX0 5 "are_kinds" ["value"] (spKinds K) := by
  obtain ⟨_, F⟩ := def_of S 8 (x := "are_kinds") (df := []) (st := st_are_kinds)
  exact cal_of X G S F (F.bindsN fun _ _ _ _ _ _ us hl => match us, hl with | [_], _ => rfl) (wk_are_kinds Z.B Z.BH Z.T (cal_up (f_is_listed X G S Z) (by decide)) (cal_up (f_is_kind X G S Z) (by decide)) F (fun vs H Q E z => z.len) fun vs H Q E z => pr_kinds  vs H Q E z)
theorem f_taken_kind {A : Ads} {base : Heap} (X : K.In h) (G : h.Ns mainGlobals mg) (S : SaysN w h K) (Z : Fx A w K mg) : Cal PR w K mg base (CX PR w) 5 "taken_kind" ["scan", "many"] (spTKind K A) := by
  obtain ⟨_, F⟩ := def_of S 24 (x := "taken_kind") (df := []) (st := st_taken_kind)
  exact cal_of X G S F (F.bindsN fun _ _ _ _ _ _ us hl => match us, hl with | [_, _], _ => rfl) (wk_taken_kind Z.B Z.BH Z.T (met_up (f_Scan_take_of X G S Z) (by decide)) (met_up (f_Scan_take_number X G S Z) (by decide)) (met_up (f_Scan_ahead X G S Z) (by decide)) (cal_up (f_taken_link X G S Z) (by decide)) (met_up (f_Scan_end_line X G S Z) (by decide)) F (fun vs H Q E z => by obtain ⟨_, _, _, _, _, _, rfl, _⟩ := z; rfl) fun vs H Q E z => pr_tkind  vs H Q E z)
theorem f_taken_collector {A : Ads} {base : Heap} (X : K.In h) (G : h.Ns mainGlobals mg) (S : SaysN w h K) (Z : Fx A w K mg) : Cal PR w K mg base (CX PR w) 5 "taken_collector" ["scan"] (spTColl K A) := by
  obtain ⟨_, F⟩ := def_of S 27 (x := "taken_collector") (df := []) (st := st_taken_collector)
  exact cal_of X G S F (F.bindsN fun _ _ _ _ _ _ us hl => match us, hl with | [_], _ => rfl) (wk_taken_collector Z.B Z.BH Z.T (met_up (f_Scan_take_of X G S Z) (by decide)) (cal_up (f_taken_count X G S Z) (by decide)) (cal_up (f_taken_lot X G S Z) (by decide)) (met_up (f_Scan_take_number X G S Z) (by decide)) (met_up (f_Scan_end_line X G S Z) (by decide)) F (fun vs H Q E z => by obtain ⟨_, _, _, _, _, rfl, _⟩ := z; rfl) fun vs H Q E z => pr_tcoll Z.Y vs H Q E z)
theorem f_taken_kinds {A : Ads} {base : Heap} (X : K.In h) (G : h.Ns mainGlobals mg) (S : SaysN w h K) (Z : Fx A w K mg) : Cal PR w K mg base (CX PR w) 6 "taken_kinds" ["scan"] (spTKinds K A) := by
  obtain ⟨_, F⟩ := def_of S 26 (x := "taken_kinds") (df := []) (st := st_taken_kinds)
  exact cal_of X G S F (F.bindsN fun _ _ _ _ _ _ us hl => match us, hl with | [_], _ => rfl) (wk_taken_kinds Z.B Z.BH Z.T (cal_up (f_kinds_ahead X G S Z) (by decide)) (cal_up (f_taken_kind X G S Z) (by decide)) F (fun vs H Q E z => by obtain ⟨_, _, _, _, _, rfl, _⟩ := z; rfl) fun vs H Q E z => pr_tkinds  vs H Q E z)
theorem f_House___init__ {A : Ads} {base : Heap} (X : K.In h) (G : h.Ns mainGlobals mg) (S : SaysN w h K) (Z : Fx A w K mg) : Ini PR w K mg base (CX PR w) 16 A.cHouse ["self", "cells", "kinds", "registers", "live", "rooms", "collector", "pace", "need", "slide", "asked"] (spHInit K A) := by
  obtain ⟨_, F⟩ := mdef_of S 42 (c := "House") (x := "__init__") (q := "House.__init__") (df := dfH) (st := st_House___init__)
  rw [Z.house]
  obtain ⟨ds, r, b⟩ := F.binds1 (ps := ["self", "cells", "kinds", "registers", "live", "rooms", "collector", "pace", "need", "slide", "asked"]) 11 6 (by simp [dfH]) rfl fun _ _ _ _ _ _ _ us its hu hi => match us, its, hu, hi with | [_, _, _, _, _, _, _, _, _, _, _], [_, _, _, _, _, _], _, _ => ⟨_, rfl, rfl⟩
  have r' : L2.Vals [] ds := r
  cases r'
  exact ⟨_, _, He.mkr_ok (x := "House") (last_of S), b, 15, rfl, (wk_House___init__ Z.B Z.BH Z.T (cal_up (f_are_kinds X G S Z) (by decide)) (cal_up (f_is_within X G S Z) (by decide)) (cal_up (f_is_collector X G S Z) (by decide)) (cal_up (f_is_word X G S Z) (by decide)) (cal_up (f_is_word_lot X G S Z) (by decide)) (cal_up (f_need_parts X G S Z) (by decide)) (cal_up (fixed_of X G S Z 13) (by decide)) (cal_up (f_misfit_of X G S Z) (by decide)) F (fun vs H Q E z => z.len) fun vs H Q E z => pr_hinit Z.X Z.Y vs H Q E z)⟩
theorem f_taken_house {A : Ads} {base : Heap} (X : K.In h) (G : h.Ns mainGlobals mg) (S : SaysN w h K) (Z : Fx A w K mg) : Cal PR w K mg base (CX PR w) 17 "taken_house" ["scan"] (spTHouse K A) := by
  obtain ⟨_, F⟩ := def_of S 31 (x := "taken_house") (df := []) (st := st_taken_house)
  exact cal_of X G S F (F.bindsN fun _ _ _ _ _ _ us hl => match us, hl with | [_], _ => rfl) (wk_taken_house Z.B Z.BH Z.T (cal_up (f_taken_kinds X G S Z) (by decide)) (cal_up (f_taken_after X G S Z) (by decide)) (cal_up (f_taken_collector X G S Z) (by decide)) (cal_up (f_taken_word X G S Z) (by decide)) (cal_up (f_taken_pace X G S Z) (by decide)) (cal_up (f_taken_asked X G S Z) (by decide)) (met_up (f_Scan_finish X G S Z) (by decide)) (ini_up (f_House___init__ X G S Z) (by decide)) F (fun vs H Q E z => by obtain ⟨_, _, _, rfl, _⟩ := z; rfl) fun vs H Q E z => pr_thouse Z.Y vs H Q E z)
theorem f_law_whole_house {A : Ads} {base : Heap} (X : K.In h) (G : h.Ns mainGlobals mg) (S : SaysN w h K) (Z : Fx A w K mg) : Cal PR w K mg base CX0 17 "_law_whole_house" ["plain"] (spWhole K A) := by
  obtain ⟨_, F⟩ := def_of S 39 (x := "_law_whole_house") (df := []) (st := st_law_whole_house)
  exact cal_of X G S F (F.bindsN fun _ _ _ _ _ _ us hl => match us, hl with | [_], _ => rfl) (wk_law_whole_house Z.B Z.BH Z.T (ini_up (f_House___init__ X G S Z) (by decide)) F (fun vs H Q E z => by obtain ⟨_, _, _, rfl, _⟩ := z; rfl) fun vs H Q E z => pr_whole  vs H Q E z)
theorem f_read_house {A : Ads} {base : Heap} (X : K.In h) (G : h.Ns mainGlobals mg) (S : SaysN w h K) (Z : Fx A w K mg) : Cal PR w K mg base (CX PR w) 18 "read_house" ["text"] (spRHouse K A) := by
  obtain ⟨_, F⟩ := def_of S 32 (x := "read_house") (df := []) (st := st_read_house)
  exact cal_of X G S F (F.bindsN fun _ _ _ _ _ _ us hl => match us, hl with | [_], _ => rfl) (wk_read_house Z.B Z.BH Z.T (cal_up (f_taken_house X G S Z) (by decide)) (cal_up (f_scan_of X G S Z) (by decide)) F (fun vs H Q E z => by obtain ⟨_, _, rfl, _⟩ := z; rfl) fun vs H Q E z => pr_rhouse  vs H Q E z)
end
end NvK
set_option Elab.async false
set_option linter.all false
set_option maxRecDepth 100000
set_option maxHeartbeats 1000000
/-! The law's def. -/
namespace NvK
open PySem PySem.W PySem.Spec PyProof.Rows PySem.HandSPX
theorem kb_one {K : Frag} {x q p : Str} {params : Arguments} {body : List Stmt} {scope : Scope} {f : Addr} {fd : FuncData} (F : L2.FunD K x q params body scope [] [] f fd)
    (h1 : ∀ (kV doc pm : Value) (an : Option Addr) (cdv ct u : Value), bindArgs (PySem.W.fnOf x q params body scope .none kV doc pm an cdv ct) ⟨[u], []⟩ = pure [(p, u)])
    (h2 : ∀ (kV doc pm : Value) (an : Option Addr) (cdv ct u : Value), bindArgs (PySem.W.fnOf x q params body scope .none kV doc pm an cdv ct) ⟨[], [(p, u)]⟩ = pure [(p, u)]) :
    L2.KBinds K fd [p] [p] (fun us ws => us ++ ws ++ []) (fun vs zs => vs ++ zs ++ []) := by
  obtain ⟨oc, od, dV, kV, doc, pm, an, cdv, ct, osl, rfl, lk, hcd, hD, hK⟩ := F.ex
  rcases hD with ⟨_, rfl⟩ | ⟨e, _⟩
  · refine ⟨fun s us ws KX hl => ?_, fun r1 r2 => ?_⟩
    · have hl' : us.length + ws.length = 1 := by simpa using hl
      match us, ws, hl' with
      | [u], [], _ => exact .of_eq (h1 kV doc pm an cdv ct u)
      | [], [u], _ => exact .of_eq (h2 kV doc pm an cdv ct u)
      | _ :: _ :: _, _, z => simp at z; omega
      | [_], _ :: _, z => simp at z
      | [], _ :: _ :: _, z => simp at z
      | [], [], z => simp at z
    · exact (r1.append r2).append .nil
  · exact absurd rfl e
section
variable {w : World} {K : Frag} {mg : Str → Option Value} {h : Heap}
/-- the law's code object, its table -/
abbrev cL (K : Frag) : Addr × Addr := He.cT K ("law", none)
abbrev qLam : Str := "law" ++ ".<locals>." ++ "<lambda>"
open Nv L2 in
theorem k_house_text {A : Ads} {base : Heap} (X : K.In h) (G : h.Ns mainGlobals mg) (S : SaysN w h K) (Z : Fx A w K mg) : CalK PR w K mg base (CX PR w) 18 "house_text" "house" ["house"] [] (spHouseText K A) := by
  obtain ⟨f, fd, h1, h2, h3, h4⟩ := (f_house_text (base := base) X G S Z).ex
  obtain ⟨fd', F⟩ := def_of S 19 (x := "house_text") (df := []) (st := st_house_text)
  have e := h1.symm.trans (glo_of X G S (x := "house_text"))
  cases e
  have ok : FnOk PR w K mg base (CX PR w) 18 (He.ga K "house_text") fd' ["house"] (spHouseText K A) := by
    refine FnOk.mono (j := 3) ?_ (by decide)
    exact wk_house_text Z.B Z.BH Z.T (cald_up (f_need_house X G S Z) (by decide)) (cal_up (f_house_rows X G S Z) (by decide)) F (fun vs H Q E z => by obtain ⟨_, _, rfl, _⟩ := z; rfl) fun vs H Q E z => pr_housetext vs H Q E z
  exact ⟨_, fd', [], glo_of X G S, F.kp, .nil, kb_one F (fun _ _ _ _ _ _ _ => rfl) (fun _ _ _ _ _ _ _ => rfl), ok⟩
open Nv L2 in
theorem k_read_house {A : Ads} {base : Heap} (X : K.In h) (G : h.Ns mainGlobals mg) (S : SaysN w h K) (Z : Fx A w K mg) : CalK PR w K mg base (CX PR w) 18 "read_house" "text" ["text"] [] (spRHouse K A) := by
  obtain ⟨fd', F⟩ := def_of S 32 (x := "read_house") (df := []) (st := st_read_house)
  have ok : FnOk PR w K mg base (CX PR w) 18 (He.ga K "read_house") fd' ["text"] (spRHouse K A) := wk_read_house Z.B Z.BH Z.T (cal_up (f_taken_house X G S Z) (by decide)) (cal_up (f_scan_of X G S Z) (by decide)) F (fun vs H Q E z => by obtain ⟨_, _, rfl, _⟩ := z; rfl) fun vs H Q E z => pr_rhouse vs H Q E z
  exact ⟨_, fd', [], glo_of X G S, F.kp, .nil, kb_one F (fun _ _ _ _ _ _ _ => rfl) (fun _ _ _ _ _ _ _ => rfl), ok⟩
open Nv L2 in
theorem law_run {A : Ads} {base : Heap} (X : K.In h) (G : h.Ns mainGlobals mg) (S : SaysN w h K) (Z : Fx A w K mg) (TB : LamX.TabB base mg (cL K).1 (cL K).2) {s : Shared} {H : Hp} {a : Addr} {ns : List Int} (hl : ns.length ≤ 63)
    (e0 : Env0 PR w K mg base callerA [] s H) (tT : H (cL K).2 = some (.tbl #[])) (sq : SqL K H a (ns.map V.int)) : codeAny (model PR w) callerA (.call (.ref (He.ga K "law")) ⟨[.ref a], []⟩) (CR CX0 [] PR w H s (fun v _ => v = .bl true) fun _ _ _ => False) s := by
  obtain ⟨fdh, Fh⟩ := def_of S 37 (x := "_law_heard") (df := []) (st := st_heard)
  obtain ⟨fd, F⟩ := def_of S 41 (x := "law") (df := []) (st := st_law)
  have b := FunD.bindsA (ps := ["script"]) F (fun _ _ _ _ _ _ us hl => match us, hl with | [_], _ => rfl) s [.ref a] rfl
  obtain ⟨oc, od, dV, kV, doc, pm, an, cdv, ct, osl, rfl, lk, hcd, _, _⟩ := F.ex
  obtain ⟨c, rfl⟩ := He.codeIn_ref hcd
  have ec : He.codeOf K ("law", none) = c := He.codeOf_eq (p := ("law", none)) lk rfl
  have TB' : LamX.TabB base mg c (cL K).2 := by
    rw [← ec]; exact TB
  have hr : Room 21 callerA := ⟨rfl, by decide, by decide⟩
  refine NvE.call_at (k := 20) (vs := [.ref a]) lk hcd sc_law rfl hr e0 b (.cons rfl .nil) ?_
  exact ⟨_, PSs.nox (wt_law (A := A) (k := 18) Z.B Z.BH Z.T Z.H (cal_up (f_law_pen X G S Z) (by decide)) (cal_up (f_law_any_plain X G S Z) (by decide)) (cal_up (f_law_whole_house X G S Z) (by decide)) (cal_up (f_law_house_lines X G S Z) (by decide)) (cal_up (f_house_text X G S Z) (by decide)) (k_house_text X G S Z) (f_read_house X G S Z) (k_read_house X G S Z) (cal_up (f_law_pick X G S Z) (by decide)) (cmp_up (f_House___eq__ X G S Z) (by decide)) (glo_of X G S) Fh TB' (hr.deeper _) rfl),
    pr_law Z.X _ _ _ (fun _ _ _ => False) ⟨a, ns, rfl, sq, by omega, fun p hp => (by
      rw [List.mem_singleton.mp hp]
      exact LamX.TabS.nil tT), fun _ => rfl⟩⟩
end
end NvK
set_option Elab.async false
set_option linter.all false
set_option maxRecDepth 100000
set_option maxHeartbeats 1000000
/-! The end. -/
namespace NvK
open PySem PySem.W PySem.Spec PyProof.Rows PySem.HandSPX
abbrev LW : PySem.W.OpenLaw := PySem.Challenge.rw_nevergone_k91_texts_of_houses_written_an
theorem law_at {w : World} {K : Frag} {mg : Str → Option Value} {h : Heap} {fa : Addr} (X : K.In h) (G : h.Ns mainGlobals mg) (S : SaysN w h K) (hmg : mg ("law" : Str) = some (.ref fa)) : NvE.At1 LW w K 63 mg fa h := by
  obtain ⟨A, Z⟩ := fx_of X G S
  have e := hmg.symm.trans (glo_of X G S (x := "law"))
  cases e
  have hm : (("law", none) : He.Defn) ∈ tfL := List.mem_singleton.mpr rfl
  exact ⟨(cL K).1, (cL K).2, S.x.empty _ hm, S.x.out _ hm, PySem.W.codeHd_of_K X (S.x.hd _ hm), fun base s H a ns hl _ _ _ TB e0 tT sq => law_run X G S Z TB hl e0 tT sq⟩
end NvK
set_option maxHeartbeats 0
open PySem PySem.W PySem.Calls PyProof.Rows
theorem PySem.Challenge.cw_nevergone_k91_texts_of_houses_written_an_holds : PySem.Challenge.rw_nevergone_k91_texts_of_houses_written_an.Holds := by
  w_on; o_law
  refine HandSHeadRun.head_any (r := NvK.R) (q := view NvK.R.prog [81]) (H := NvK.hk) (ob := NvK.ob) (M := 9600) (loose := NvK.lo) (d := HandSHeadRun.topDef NvK.R.prog 81) (kwd := []) NvK.ob_eq
    (by kernel_rfl) (fun s => by kernel_rfl) NvK.run (by kernel_rfl) (by kernel_rfl) (by kernel_rfl) (by rfl) (by first | assumption | decide +kernel) (by decide +kernel) ⟨rfl, rfl, rfl, rfl, rfl, by decide +kernel⟩ ?hw ?hc
  case hw => w_witness2
  case hc =>
    refine NvE.own_walk (l := NvK.LW) (n := 63) rfl (by decide) (by kernel_rfl) ?F
    intro w mg fa h Y G hmg0
    obtain ⟨K, KX, S⟩ := Y
    have hmg : mg ("law" : PySem.Str) = some (.ref fa) := by
      have e : (HandSHeadRun.topDef NvK.R.prog 81).name = ("law" : PySem.Str) := by kernel_rfl
      rw [← e]
      exact hmg0
    exact ⟨K, KX, NvK.law_at KX G S hmg⟩
