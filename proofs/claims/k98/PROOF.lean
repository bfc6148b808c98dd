import PyProof.Rows.All
import Wide.All
import OpenK.AllK
import Wide.FinOn
import KE.KStateDown
import HandS.Base
import HandS.Call
import HandS.Ends
import HandS.More
import HandS.Words
import HandS.WordsExc
import HandS.Defaults
import HandS.Property
import HandS.Head0
import HandS.Head1
import HandS.Head2
import HandS.HeadEnd
import HandS.HeadHook1
import HandS.HeadHook2
import HandS.IsInst
import HandS.ForMost
import HandS.Walk
import HandS.Wide
import HandS.TupAny
import HandS.Style
import HandS.Conv
import HandS.TupLen
import HandS.RaiseMore
import HandS.SortInts
import HandS.Zip
import KE.GoesEnum
import HandS.Small
import HandS.SetFor
import HandS.DictComp
import HandS.Text
import HandS.Deep
import HandS.Star
import KE.KDictKeyed
import HandS.Strs
import KE.IntTextLaws
import PySem.Challenge.RW_surelyahead_k98_whole_clocks_as_sources
/-! text DHead -/
set_option Elab.async false
set_option linter.all false
set_option maxRecDepth 100000
/-! where the text's defs stand behind the top: a Hook of my own (over the kit's He) -/
namespace Dz
open PySem PySem.Spec PyProof.Rows L2
/-- where a def stands: the module's name, a class's method, a class's property (its getter) -/
inductive Loc where
  | glob (x : Str) | meth (c m : Str) | prop (c f : Str)
def pAd (K : PySem.W.Frag) (c f : Str) : Addr := He.ma K (He.ga K c) f
def gAd (K : PySem.W.Frag) (p : Addr) : Addr := match PySem.W.recIn K p "property" with
  | some (.ref g :: _) => g
  | _ => 0
def Loc.ad (K : PySem.W.Frag) : Loc → Addr
  | .glob x => He.ga K x
  | .meth c m => He.ma K (He.ga K c) m
  | .prop c f => gAd K (pAd K c f)
structure Df where
  at_ : Loc
  name : Str
  qual : Str
  st : Stmt
abbrev FnV : Type := Option (Str × Str × Arguments × FuncBody × Scope × Addr × List (Str × Addr) × Addr × Value)
def fnV (K : PySem.W.Frag) (a : Addr) : FnV := match K.lookup a with
  | some ⟨_, _, .func fd, _⟩ => some (fd.name, fd.qualname, fd.params, fd.body, fd.scope, fd.globals, fd.closure, fd.builtins, fd.defaults)
  | _ => none
def Df.val (d : Df) : FnV := some (d.name, d.qual, defArgs d.st, .stmts (defBody d.st), defScope d.st, mainGlobals, [], builtinsNs, .none)
def Df.ok (K : PySem.W.Frag) (d : Df) : Bool := PySem.W.keepIn K (.ref (d.at_.ad K)) && (match K.lookup (d.at_.ad K) with
  | some ⟨_, _, .func fd, _⟩ => PySem.W.codeIn K fd.code d.qual
  | _ => false)
/-- isinstance against an own class -/
structure IsOf (K : PySem.W.Frag) (C : Addr) : Prop where
  ha : PySem.W.findIn K (.ref C) "__class__" = some (some (.builtin "object.__class__"))
  hn : PySem.W.specialIn K (.builtin "object.__class__") "__get__" = some (some (.builtin "getset_descriptor.__get__"))
  ht : PySem.W.takesIn K (.builtin "object.__class__") = some true
  hm : PySem.W.mroIn K C (.type "object") = some true
  one : PySem.W.kitOne K (.ref C) (.ref C) = some true
def isB (K : PySem.W.Frag) (c : Str) : Bool :=
  He.eqO (PySem.W.findIn K (.ref (He.ga K c)) "__class__") (some (some (.builtin "object.__class__"))) && (He.eqO (PySem.W.specialIn K (.builtin "object.__class__") "__get__") (some (some (.builtin "getset_descriptor.__get__"))) &&
  (decide (PySem.W.takesIn K (.builtin "object.__class__") = some true) && (decide (PySem.W.mroIn K (He.ga K c) (.type "object") = some true) && decide (PySem.W.kitOne K (.ref (He.ga K c)) (.ref (He.ga K c)) = some true))))
theorem isB_ok {K : PySem.W.Frag} {c : Str} (h : isB K c = true) : IsOf K (He.ga K c) := by
  obtain ⟨h1, h⟩ := He.ba h
  obtain ⟨h2, h⟩ := He.ba h
  obtain ⟨h3, h⟩ := He.ba h
  obtain ⟨h4, h5⟩ := He.ba h
  exact ⟨He.eqO_ok h1, He.eqO_ok h2, of_decide_eq_true h3, of_decide_eq_true h4, of_decide_eq_true h5⟩
/-- the property facts -/
def propB0 (K : PySem.W.Frag) (c f : Str) : Bool :=
  He.eqO (PySem.W.findIn K (.ref (He.ga K c)) f) (some (some (.ref (pAd K c f)))) && (He.eqO (PySem.W.specialIn K (.ref (pAd K c f)) "__get__") (some (some (.builtin "property.__get__"))) &&
  (decide (PySem.W.takesIn K (.ref (pAd K c f)) = some true) && (match PySem.W.recIn K (pAd K c f) "property" with
    | some (.ref _ :: _) => true
    | _ => false)))
theorem propB_ok {K : PySem.W.Frag} {c f : Str} (h : propB0 K c f = true) : PropOf K (He.ga K c) f (pAd K c f) (gAd K (pAd K c f)) := by
  obtain ⟨h1, h⟩ := He.ba h
  obtain ⟨h2, h⟩ := He.ba h
  obtain ⟨h3, h4⟩ := He.ba h
  refine ⟨He.eqO_ok h1, He.eqO_ok h2, of_decide_eq_true h3, ?_⟩
  unfold gAd
  cases e : PySem.W.recIn K (pAd K c f) "property" with
  | none => rw [e] at h4; cases h4
  | some l =>
    rw [e] at h4
    cases l with
    | nil => cases h4
    | cons v r =>
      cases v with
      | ref g => exact ⟨r, rfl⟩
      | _ => cases h4
/-- a property of a class; with no name: isinstance against the class -/
def propB (K : PySem.W.Frag) (c f : Str) : Bool := if f = "" then isB K c else propB0 K c f
/-- what a def is, by name: its object, its code, no defaults -/
theorem Df.fun_ {K : PySem.W.Frag} {d : Df} (e : fnV K (d.at_.ad K) = d.val) (c : d.ok K = true) : ∃ fd, Fun K d.name d.qual d.st (d.at_.ad K) fd := by
  obtain ⟨kp, c2⟩ := He.ba c
  unfold fnV at e
  cases q : K.lookup (d.at_.ad K) with
  | none => rw [q] at c2; cases c2
  | some o =>
    obtain ⟨oc, od, dt, osl⟩ := o
    rw [q] at c2 e
    cases dt with
    | func fd =>
      obtain ⟨n1, n2, n3, n4, n5, n6, n7, n8, n9, n10, n11, n12, n13, n14, n15⟩ := fd
      have e2 : (some (n1, n2, n3, n4, n5, n6, n7, n15, n8) : FnV) = some (d.name, d.qual, defArgs d.st, .stmts (defBody d.st), defScope d.st, mainGlobals, [], builtinsNs, .none) := e
      simp only [Option.some.injEq, Prod.mk.injEq] at e2
      obtain ⟨h1, h2, h3, h4, h5, h6, h7, h8, h9⟩ := e2
      subst h1 h2 h3 h4 h5 h6 h7 h8 h9
      exact ⟨_, ⟨oc, od, n9, n10, n11, n12, n13, n14, osl, rfl, q, c2⟩, kp⟩
    | _ => cases c2
/-! the Hook -/
abbrev Al : Type := Bool × List FnV
def obsK (fa : List He.Fa) (pr : List (Str × Str)) (fn : List Df) (K : PySem.W.Frag) : Al :=
  ((fa.all fun f => f.ok K) && ((pr.all fun p => propB K p.1 p.2) && fn.all fun d => d.ok K), fn.map fun d => fnV K (d.at_.ad K))
def valK (fn : List Df) : Al := (true, fn.map Df.val)
def Says (fa : List He.Fa) (pr : List (Str × Str)) (fn : List Df) (K : PySem.W.Frag) : Prop := obsK fa pr fn K = valK fn
def obsG (n : Nat) (fa : List He.Fa) (pr : List (Str × Str)) (fn : List Df) (g : Addr → Option Obj) : Al := obsK fa pr fn (He.frG g (He.asD g n))
def hook (n : Nat) (fa : List He.Fa) (pr : List (Str × Str)) (fn : List Df) : PySem.W.Hook where
  α := Al
  obs := fun s => obsG n fa pr fn s.heap.get?
  val := fun _ => valK fn
  says := fun _ h => ∃ K : PySem.W.Frag, K.In h ∧ Says fa pr fn K
  of := fun _ _ e => ⟨_, He.frG_in, e⟩
  keeps := fun _ _ _ ⟨K, hK, c⟩ k => ⟨K, PySem.W.Frag.In.keeps hK k, c⟩
theorem obsG_eq {n : Nat} {fa : List He.Fa} {pr : List (Str × Str)} {fn : List Df} {g : Addr → Option Obj} {s : Shared} (h : ∀ a, g a = s.heap.get? a) : obsG n fa pr fn g = (hook n fa pr fn).obs s := by
  have e : g = s.heap.get? := funext h
  rw [e] <;> rfl
section
variable {fa : List He.Fa} {pr : List (Str × Str)} {fn : List Df} {K : PySem.W.Frag}
theorem Says.all (c : Says fa pr fn K) : (fa.all fun f => f.ok K) = true ∧ (pr.all fun p => propB K p.1 p.2) = true ∧ (fn.all fun d => d.ok K) = true := by
  have c1 : ((fa.all fun f => f.ok K) && ((pr.all fun p => propB K p.1 p.2) && fn.all fun d => d.ok K)) = true := congrArg (fun z : Al => z.1) c
  obtain ⟨h1, h2⟩ := He.ba c1
  exact ⟨h1, He.ba h2⟩
theorem Says.fact (c : Says fa pr fn K) (i : Nat) {f : He.Fa} (h : fa[i]? = some f := by rfl) : f.ok K = true :=
  List.all_eq_true.mp c.all.1 f (List.mem_of_getElem? h)
theorem Says.prop (c : Says fa pr fn K) (i : Nat) {p : Str × Str} (h : pr[i]? = some p := by rfl) (hn : p.2 ≠ "" := by decide) : PropOf K (He.ga K p.1) p.2 (pAd K p.1 p.2) (gAd K (pAd K p.1 p.2)) := by
  have q := List.all_eq_true.mp c.all.2.1 p (List.mem_of_getElem? h)
  unfold propB at q
  rw [if_neg hn] at q
  exact propB_ok q
theorem Says.is_ (c : Says fa pr fn K) (i : Nat) {x : Str} (h : pr[i]? = some (x, ("" : Str)) := by rfl) : IsOf K (He.ga K x) :=
  isB_ok (List.all_eq_true.mp c.all.2.1 (x, ("" : Str)) (List.mem_of_getElem? h))
theorem Says.def_ (c : Says fa pr fn K) (i : Nat) {d : Df} (h : fn[i]? = some d := by rfl) : ∃ fd, Fun K d.name d.qual d.st (d.at_.ad K) fd := by
  have e : fn.map (fun d => fnV K (d.at_.ad K)) = fn.map Df.val := congrArg (fun z : Al => z.2) c
  have e2 : (fn.map fun d => fnV K (d.at_.ad K))[i]? = (fn.map Df.val)[i]? := by rw [e]
  rw [List.getElem?_map, List.getElem?_map, h] at e2
  exact Df.fun_ (Option.some.inj e2) (List.all_eq_true.mp c.all.2.2 d (List.mem_of_getElem? h))
end
end Dz
/-! text K98A -/
set_option Elab.async false
set_option linter.all false
set_option maxRecDepth 100000
set_option maxHeartbeats 0
namespace Hk98
open PySem PySem.Spec PyProof.Rows L2
def top (i : Nat) : Stmt := PySem.Challenge.pw_surelyahead_k98_whole_clocks_as_sources.main.body.getD i (.Pass ⟨0, 0, 0, 0⟩)
def fa0 : List He.Fa := [.glo "_wall", .glo "is_integer", .glo "is_between", .glo "is_name", .glo "read_integer", .glo "is_source", .glo "check_sources", .glo "check_wrong", .glo "having", .glo "have", .glo "pieces_of", .glo "joined", .glo "told_agreed", .glo "agreed", .glo "most_agreed", .glo "best_agreed", .glo "told_could", .glo "truth_spans", .glo "spans_if", .glo "surely_wrong"]
def fa1 : List He.Fa := [.glo "trimmed", .glo "hull", .glo "written", .glo "check_log", .glo "check_deed", .glo "is_lot_of", .glo "check_lot", .glo "time_by", .glo "is_course_of", .glo "check_course", .glo "times", .glo "without", .glo "clocks_of", .glo "steps_of", .glo "reach_of", .glo "fitting", .glo "span_by", .glo "span_of", .glo "_law_pot", .glo "_law_take"]
def fa2 : List He.Fa := [.glo "_law_of", .glo "_law_cells", .glo "_law_text", .glo "_law_right", .glo "law", .glo "OrderError", .glo "BadCourse", .glo "BadLog", .glo "BadLot", .glo "BadNumber", .glo "BadSources", .glo "Barred", .glo "MoreWrong", .glo "NoDeed", .glo "NoLog", .glo "LogReader", .glo "Log", .glo "Reach", .str "LETTERS" "abcdefghijklmnopqrstuvwxyz", .str "FIGURES" "0123456789"]
def fa3 : List He.Fa := [.int "MOST_SIGNS" 8, .int "MOST_SOURCES" 20, .int "MOST_FAR" 99999, .int "MOST_TRUTH" 199998, .str "SPANS" "spans", .str "MORE" "more", .str "TOWN" "town", .str "DEED" "deed", .str "LETTER" "letter", .str "STAR" "*", .int "MOST_TOWNS" 8, .int "MOST_DEEDS" 24, .int "MOST_LETTERS" 40, .int "MOST_OFF" 999, .int "MOST_SHOWN" 99999, .str "COURSE" "course", .str "RING" "ring", .str "TRUTH" ".", .str "LOW" "low", .str "HIGH" "high"]
def fa4 : List He.Fa := [.str "LEAST" "least", .str "MOST" "most", .free "len", .free "range", .free "list", .free "tuple", .free "dict", .free "set", .free "sorted", .free "sum", .free "max", .free "min", .free "all", .free "any", .free "abs", .free "int", .free "str", .free "isinstance", .free "enumerate", .free "zip"]
def fa5 : List He.Fa := [.free "repr", .free "bool", .free "super", .cls "LogReader", .noat "LogReader" "own_deeds", .noat "LogReader" "own_letters", .noat "LogReader" "own_towns", .mkr "LogReader", .meth "LogReader" "__init__", .meth "LogReader" "takes", .meth "LogReader" "takes_town", .meth "LogReader" "takes_deed", .meth "LogReader" "takes_letter", .cls "Log", .noat "Log" "own_deeds", .noat "Log" "own_letters", .noat "Log" "own_text", .noat "Log" "own_towns", .mkr "Log", .meth "Log" "__init__"]
def fa6 : List He.Fa := [.meth "Log" "__eq__", .meth "Log" "town_names", .meth "Log" "deed_names", .meth "Log" "bounds_at", .meth "Log" "town_at", .meth "Log" "shown_at", .cls "Reach", .noat "Reach" "own_clocks", .noat "Reach" "own_first", .noat "Reach" "own_most", .noat "Reach" "own_ring", .noat "Reach" "own_steps", .mkr "Reach", .meth "Reach" "__init__", .meth "Reach" "found_ring", .meth "Reach" "go", .meth "Reach" "take", .meth "Reach" "ring", .meth "Reach" "most", .meth "Reach" "chain"]
def fa7 : List He.Fa := [.meth "Reach" "course"]
def fa : List He.Fa := fa0 ++ fa1 ++ fa2 ++ fa3 ++ fa4 ++ fa5 ++ fa6 ++ fa7
def pr0 : List (Str × Str) := [("Log", "text"), ("Log", "towns"), ("Log", "deeds"), ("Log", "letters"), ("LogReader", ""), ("Log", ""), ("Reach", "")]
def pr : List (Str × Str) := pr0
def fn0 : List Dz.Df := [⟨.glob "_wall", "_wall", "_wall", top 0⟩, ⟨.glob "is_integer", "is_integer", "is_integer", top 16⟩, ⟨.glob "is_between", "is_between", "is_between", top 17⟩, ⟨.glob "is_name", "is_name", "is_name", top 18⟩, ⟨.glob "read_integer", "read_integer", "read_integer", top 19⟩, ⟨.glob "is_source", "is_source", "is_source", top 26⟩, ⟨.glob "check_sources", "check_sources", "check_sources", top 27⟩, ⟨.glob "check_wrong", "check_wrong", "check_wrong", top 28⟩, ⟨.glob "having", "having", "having", top 29⟩, ⟨.glob "have", "have", "have", top 30⟩, ⟨.glob "pieces_of", "pieces_of", "pieces_of", top 31⟩, ⟨.glob "joined", "joined", "joined", top 32⟩, ⟨.glob "told_agreed", "told_agreed", "told_agreed", top 33⟩, ⟨.glob "agreed", "agreed", "agreed", top 34⟩, ⟨.glob "most_agreed", "most_agreed", "most_agreed", top 35⟩, ⟨.glob "best_agreed", "best_agreed", "best_agreed", top 36⟩, ⟨.glob "told_could", "told_could", "told_could", top 37⟩, ⟨.glob "truth_spans", "truth_spans", "truth_spans", top 38⟩, ⟨.glob "spans_if", "spans_if", "spans_if", top 39⟩, ⟨.glob "surely_wrong", "surely_wrong", "surely_wrong", top 40⟩]
def fn1 : List Dz.Df := [⟨.glob "trimmed", "trimmed", "trimmed", top 42⟩, ⟨.glob "hull", "hull", "hull", top 43⟩, ⟨.meth "LogReader" "__init__", "__init__", "LogReader.__init__", inClass (top 54) 0⟩, ⟨.meth "LogReader" "takes", "takes", "LogReader.takes", inClass (top 54) 1⟩, ⟨.meth "LogReader" "takes_town", "takes_town", "LogReader.takes_town", inClass (top 54) 2⟩, ⟨.meth "LogReader" "takes_deed", "takes_deed", "LogReader.takes_deed", inClass (top 54) 3⟩, ⟨.meth "LogReader" "takes_letter", "takes_letter", "LogReader.takes_letter", inClass (top 54) 4⟩, ⟨.meth "Log" "__init__", "__init__", "Log.__init__", inClass (top 55) 0⟩, ⟨.meth "Log" "__eq__", "__eq__", "Log.__eq__", inClass (top 55) 1⟩, ⟨.prop "Log" "text", "text", "Log.text", inClass (top 55) 2⟩, ⟨.prop "Log" "towns", "towns", "Log.towns", inClass (top 55) 3⟩, ⟨.prop "Log" "deeds", "deeds", "Log.deeds", inClass (top 55) 4⟩, ⟨.prop "Log" "letters", "letters", "Log.letters", inClass (top 55) 5⟩, ⟨.meth "Log" "town_names", "town_names", "Log.town_names", inClass (top 55) 6⟩, ⟨.meth "Log" "deed_names", "deed_names", "Log.deed_names", inClass (top 55) 7⟩, ⟨.meth "Log" "bounds_at", "bounds_at", "Log.bounds_at", inClass (top 55) 8⟩, ⟨.meth "Log" "town_at", "town_at", "Log.town_at", inClass (top 55) 9⟩, ⟨.meth "Log" "shown_at", "shown_at", "Log.shown_at", inClass (top 55) 10⟩, ⟨.glob "written", "written", "written", top 56⟩, ⟨.glob "check_log", "check_log", "check_log", top 57⟩]
def fn2 : List Dz.Df := [⟨.glob "check_deed", "check_deed", "check_deed", top 58⟩, ⟨.glob "is_lot_of", "is_lot_of", "is_lot_of", top 59⟩, ⟨.glob "check_lot", "check_lot", "check_lot", top 60⟩, ⟨.glob "time_by", "time_by", "time_by", top 61⟩, ⟨.glob "is_course_of", "is_course_of", "is_course_of", top 62⟩, ⟨.glob "check_course", "check_course", "check_course", top 63⟩, ⟨.glob "times", "times", "times", top 64⟩, ⟨.glob "without", "without", "without", top 66⟩, ⟨.glob "clocks_of", "clocks_of", "clocks_of", top 75⟩, ⟨.glob "steps_of", "steps_of", "steps_of", top 76⟩, ⟨.meth "Reach" "__init__", "__init__", "Reach.__init__", inClass (top 77) 0⟩, ⟨.meth "Reach" "found_ring", "found_ring", "Reach.found_ring", inClass (top 77) 1⟩, ⟨.meth "Reach" "go", "go", "Reach.go", inClass (top 77) 2⟩, ⟨.meth "Reach" "take", "take", "Reach.take", inClass (top 77) 3⟩, ⟨.meth "Reach" "ring", "ring", "Reach.ring", inClass (top 77) 4⟩, ⟨.meth "Reach" "most", "most", "Reach.most", inClass (top 77) 5⟩, ⟨.meth "Reach" "chain", "chain", "Reach.chain", inClass (top 77) 6⟩, ⟨.meth "Reach" "course", "course", "Reach.course", inClass (top 77) 7⟩, ⟨.glob "reach_of", "reach_of", "reach_of", top 78⟩, ⟨.glob "fitting", "fitting", "fitting", top 79⟩]
def fn3 : List Dz.Df := [⟨.glob "span_by", "span_by", "span_by", top 81⟩, ⟨.glob "span_of", "span_of", "span_of", top 82⟩, ⟨.glob "_law_pot", "_law_pot", "_law_pot", top 84⟩, ⟨.glob "_law_take", "_law_take", "_law_take", top 85⟩, ⟨.glob "_law_of", "_law_of", "_law_of", top 86⟩, ⟨.glob "_law_cells", "_law_cells", "_law_cells", top 87⟩, ⟨.glob "_law_text", "_law_text", "_law_text", top 88⟩, ⟨.glob "_law_right", "_law_right", "_law_right", top 89⟩, ⟨.glob "law", "law", "law", top 90⟩]
def fn : List Dz.Df := fn0 ++ fn1 ++ fn2 ++ fn3
def loose0 : List PySem.Str := ["_wall", "OrderError", "BadCourse", "BadLog", "BadLot", "BadNumber", "BadSources", "Barred", "MoreWrong", "NoDeed", "NoLog", "LETTERS", "FIGURES", "MOST_SIGNS", "is_integer", "is_between", "is_name", "read_integer", "MOST_SOURCES", "MOST_FAR", "MOST_TRUTH", "SPANS", "MORE", "is_source", "check_sources", "check_wrong", "having", "have", "pieces_of", "joined"]
def loose1 : List PySem.Str := ["told_agreed", "agreed", "most_agreed", "best_agreed", "told_could", "truth_spans", "spans_if", "surely_wrong", "trimmed", "hull", "TOWN", "DEED", "LETTER", "STAR", "MOST_TOWNS", "MOST_DEEDS", "MOST_LETTERS", "MOST_OFF", "MOST_SHOWN", "LogReader", "Log", "written", "check_log", "check_deed", "is_lot_of", "check_lot", "time_by", "is_course_of", "check_course", "times"]
def loose2 : List PySem.Str := ["without", "COURSE", "RING", "TRUTH", "LOW", "HIGH", "LEAST", "MOST", "clocks_of", "steps_of", "Reach", "reach_of", "fitting", "span_by", "span_of", "_law_pot", "_law_take", "_law_of", "_law_cells", "_law_text", "_law_right"]
def loose : List PySem.Str := loose0 ++ loose1 ++ loose2
end Hk98
/-! text K98R -/
set_option Elab.async false
set_option linter.all false
set_option maxRecDepth 100000
set_option maxHeartbeats 0
namespace Hk98
open PySem PySem.Spec PyProof.Rows L2
abbrev R : PySem.W.OpenRow := PySem.W.OpenLaw.row PySem.Challenge.rw_surelyahead_k98_whole_clocks_as_sources
def hk : PySem.W.Hook := Dz.hook 7 fa pr fn
def ob (s : PySem.W.SharedT) : Dz.Al := Dz.obsG 7 fa pr fn (HandSHeadRun.getT s)
theorem ob_eq (s : PySem.W.SharedT) : ob s = hk.obs s.abs := Dz.obsG_eq (HandSHeadRun.getT_eq s)
theorem run (w : World) : HandSHeadRun.RunEq R (PySem.W.view R.prog [90]) hk ob 20000 loose w := by
  intro os
  kernel_rfl
end Hk98
/-! text DL1 -/
set_option Elab.async false
set_option linter.all false
set_option maxRecDepth 100000
/-! The data layer: values as trees, without addresses; what stands in the heap for them; what is owned (may change). -/
namespace Dl
open PySem PySem.Spec PyProof.Rows L2

/-- a value with all that it holds -/
inductive D where
  | non | bl (b : Bool) | int (i : Int) | str (x : Str) | ty (n : String)
  | tup (l : List D) | lst (l : List D) | fl (l : List D) | dk (l : List (Key × D)) | dt (l : List (List Key × D)) | obj (c : Str) (l : List (Str × D))
/-- what an expression hands back: data that nobody changes any more, or a new list, dict, instance -/
inductive O where
  | sh (d : D) | ol (l : List D) | ok (l : List (Key × D)) | ot (l : List (List Key × D)) | ob (c : Str) (l : List (Str × O))
mutual
def O.frz : O → D
  | .sh d => d
  | .ol l => .lst l
  | .ok l => .dk l
  | .ot l => .dt l
  | .ob c l => .obj c (O.frzL l)
def O.frzL : List (Str × O) → List (Str × D)
  | [] => []
  | p :: r => (p.1, p.2.frz) :: O.frzL r
end
/-- a slot: nothing known, or data; w true: it is the caller's, lent -/
inductive W where
  | un | w (b : Bool) (o : O)

/-- a list of the written part -/
def KL (K : PySem.W.Frag) (a : Addr) (xs : List V) : Prop := ∃ (o : Obj) (its : Array Value) (n : Nat), K.lookup a = some o ∧ o.cls = .type "list" ∧ o.dict = none ∧ o.data = .seq its n ∧ its.size ≤ sizeLine ∧ Vals xs its.toList
mutual
inductive Rep (K : PySem.W.Frag) (M : Addr → Prop) (H : Hp) : V → D → Prop
  | non : Rep K M H .non .non
  | bl (b : Bool) : Rep K M H (.bl b) (.bl b)
  | int (i : Int) : Rep K M H (.int i) (.int i)
  | str (x : Str) : Rep K M H (.str x) (.str x)
  | ty (n : String) : Rep K M H (.ty n) (.ty n)
  | tup {a : Addr} {xs : List V} {l : List D} : True → H a = some (.tup xs) → Reps K M H xs l → Rep K M H (.ref a) (.tup l)
  | lst {a : Addr} {xs : List V} {l : List D} : ¬ M a → H a = some (.lst xs) → Reps K M H xs l → Rep K M H (.ref a) (.lst l)
  /-- a list that is locked for good (the script) -/
  | fl {a : Addr} {xs : List V} {l : List D} : ((¬ M a ∧ Rd H a (.lst xs)) ∨ KL K a xs) → Reps K M H xs l → Rep K M H (.ref a) (.fl l)
  | dk {a : Addr} {kvs : List (Key × V)} {l : List (Key × D)} : ¬ M a → Rd H a (.dK kvs) → kvs.map (·.1) = l.map (·.1) → Reps K M H (kvs.map (·.2)) (l.map (·.2)) → Rep K M H (.ref a) (.dk l)
  | dt {a : Addr} {kvs : List (List Key × V)} {l : List (List Key × D)} : ¬ M a → Rd H a (.dT kvs) → kvs.map (·.1) = l.map (·.1) → Reps K M H (kvs.map (·.2)) (l.map (·.2)) → Rep K M H (.ref a) (.dt l)
  | obj {a dx : Addr} {c : Str} {fvs : List (Str × V)} {l : List (Str × D)} : ¬ M a → H a = some (.ins (He.ga K c) dx fvs) → fvs.map (·.1) = l.map (·.1) → Reps K M H (fvs.map (·.2)) (l.map (·.2)) → Rep K M H (.ref a) (.obj c l)
inductive Reps (K : PySem.W.Frag) (M : Addr → Prop) (H : Hp) : List V → List D → Prop
  | nil : Reps K M H [] []
  | cons {v : V} {d : D} {vs : List V} {ds : List D} : Rep K M H v d → Reps K M H vs ds → Reps K M H (v :: vs) (d :: ds)
end
/-- what shared data leans on stands in H' as in H -/
structure Tr (M : Addr → Prop) (H : Hp) (M' : Addr → Prop) (H' : Hp) : Prop where
  rd : ∀ a u, ¬ M a → Rd H a u → (∀ o u', u ≠ .frz o u') → Rd H' a u
  tup : ∀ a xs, True → H a = some (.tup xs) → H' a = some (.tup xs)
  lst : ∀ a xs, ¬ M a → H a = some (.lst xs) → H' a = some (.lst xs)
  fl : ∀ a o xs, ¬ M a → H a = some (.frz o (.lst xs)) → H' a = some (.frz o (.lst xs))
  ins : ∀ a C dx fs, ¬ M a → H a = some (.ins C dx fs) → H' a = some (.ins C dx fs)
  av : ∀ a, ¬ M a → H a ≠ none → ¬ M' a
theorem Rd.trk {H : Hp} {a : Addr} {u : HO} (h : Rd H a u) : H a ≠ none := by
  rcases h with h | ⟨o, h⟩ <;> (rw [h]; exact fun z => nomatch z)
section
variable {K : PySem.W.Frag} {M M' : Addr → Prop} {H H' : Hp}
theorem fl_tr (t : Tr M H M' H') {a : Addr} {xs : List V} (h : (¬ M a ∧ Rd H a (.lst xs)) ∨ KL K a xs) : (¬ M' a ∧ Rd H' a (.lst xs)) ∨ KL K a xs := h.imp_left fun q => ⟨t.av _ q.1 (Rd.trk q.2), t.rd _ _ q.1 q.2 (fun _ _ z => nomatch z)⟩
mutual
theorem Rep.tr (t : Tr M H M' H') : ∀ {v : V} {d : D}, Rep K M H v d → Rep K M' H' v d
  | _, _, .non => .non
  | _, _, .bl b => .bl b
  | _, _, .int i => .int i
  | _, _, .str x => .str x
  | _, _, .ty n => .ty n
  | _, _, .tup m h r => .tup trivial (t.tup _ _ m h) (Reps.tr t r)
  | _, _, .lst m h r => .lst (t.av _ m (by rw [h]; exact fun z => nomatch z)) (t.lst _ _ m h) (Reps.tr t r)
  | _, _, .fl h r => .fl (fl_tr t h) (Reps.tr t r)
  | _, _, .dk m h e r => .dk (t.av _ m (Rd.trk h)) (t.rd _ _ m h (fun _ _ z => nomatch z)) e (Reps.tr t r)
  | _, _, .dt m h e r => .dt (t.av _ m (Rd.trk h)) (t.rd _ _ m h (fun _ _ z => nomatch z)) e (Reps.tr t r)
  | _, _, .obj m h e r => .obj (t.av _ m (by rw [h]; exact fun z => nomatch z)) (t.ins _ _ _ _ m h) e (Reps.tr t r)
theorem Reps.tr (t : Tr M H M' H') : ∀ {vs : List V} {ds : List D}, Reps K M H vs ds → Reps K M' H' vs ds
  | _, _, .nil => .nil
  | _, _, .cons a b => .cons (Rep.tr t a) (Reps.tr t b)
end
end
section
variable {K : PySem.W.Frag} {M : Addr → Prop} {H : Hp}
theorem fl_sq {a : Addr} {xs : List V} (h : (¬ M a ∧ Rd H a (.lst xs)) ∨ KL K a xs) : SqL K H a xs := h.imp And.right id
theorem Reps.length : ∀ {vs : List V} {ds : List D}, Reps K M H vs ds → vs.length = ds.length
  | _, _, .nil => rfl
  | _, _, .cons _ b => congrArg Nat.succ (Reps.length b)
theorem Reps.append : ∀ {vs ws : List V} {ds es : List D}, Reps K M H vs ds → Reps K M H ws es → Reps K M H (vs ++ ws) (ds ++ es)
  | _, _, _, _, .nil, h => h
  | _, _, _, _, .cons a b, h => .cons a (Reps.append b h)
theorem Reps.get : ∀ {vs : List V} {ds : List D} {i : Nat} {d : D}, Reps K M H vs ds → ds[i]? = some d → ∃ v, vs[i]? = some v ∧ Rep K M H v d
  | _, _, 0, _, .cons a _, h => by simp at h; subst h; exact ⟨_, rfl, a⟩
  | _, _, i + 1, _, .cons _ b, h => by
    obtain ⟨v, h1, h2⟩ := Reps.get (i := i) b (by simpa using h)
    exact ⟨v, by simpa using h1, h2⟩
theorem Reps.getV : ∀ {vs : List V} {ds : List D} {i : Nat} {v : V}, Reps K M H vs ds → vs[i]? = some v → ∃ d, ds[i]? = some d ∧ Rep K M H v d
  | _, _, 0, _, .cons a _, h => by simp at h; subst h; exact ⟨_, rfl, a⟩
  | _, _, i + 1, _, .cons _ b, h => by
    obtain ⟨v, h1, h2⟩ := Reps.getV (i := i) b (by simpa using h)
    exact ⟨v, by simpa using h1, h2⟩
theorem Reps.take : ∀ {vs : List V} {ds : List D} (n : Nat), Reps K M H vs ds → Reps K M H (vs.take n) (ds.take n)
  | _, _, 0, _ => .nil
  | _, _, _ + 1, .nil => .nil
  | _, _, n + 1, .cons a b => .cons a (Reps.take n b)
theorem Reps.drop : ∀ {vs : List V} {ds : List D} (n : Nat), Reps K M H vs ds → Reps K M H (vs.drop n) (ds.drop n)
  | _, _, 0, h => h
  | _, _, _ + 1, .nil => .nil
  | _, _, n + 1, .cons _ b => Reps.drop n b
theorem Reps.reverse {vs : List V} {ds : List D} (h : Reps K M H vs ds) : Reps K M H vs.reverse ds.reverse := by
  induction vs generalizing ds with
  | nil => cases h; exact .nil
  | cons v vs ih =>
    cases h with
    | cons a b =>
      rw [List.reverse_cons, List.reverse_cons]
      exact Reps.append (ih b) (.cons a .nil)
theorem Reps.set : ∀ {vs : List V} {ds : List D} {v : V} {d : D} (i : Nat), Rep K M H v d → Reps K M H vs ds → Reps K M H (vs.set i v) (ds.set i d)
  | _, _, _, _, _, _, .nil => .nil
  | _, _, _, _, 0, r, .cons _ b => .cons r b
  | _, _, _, _, i + 1, r, .cons a b => .cons a (Reps.set i r b)
theorem Reps.eraseIdx : ∀ {vs : List V} {ds : List D} (i : Nat), Reps K M H vs ds → Reps K M H (vs.eraseIdx i) (ds.eraseIdx i)
  | _, _, _, .nil => .nil
  | _, _, 0, .cons _ b => b
  | _, _, i + 1, .cons a b => .cons a (Reps.eraseIdx i b)
end

/-! ### what is owned -/
mutual
/-- at v stands o; its own objects lie in F, all else that it holds is shared -/
inductive Own (K : PySem.W.Frag) (M : Addr → Prop) (H : Hp) : V → O → (Addr → Prop) → Prop
  | sh {v : V} {d : D} {F : Addr → Prop} : Rep K M H v d → Own K M H v (.sh d) F
  | ol {a : Addr} {xs : List V} {l : List D} {F : Addr → Prop} : F a → H a = some (.lst xs) → Reps K M H xs l → Own K M H (.ref a) (.ol l) F
  | ok {a : Addr} {kvs : List (Key × V)} {l : List (Key × D)} {F : Addr → Prop} : F a → H a = some (.dK kvs) → kvs.map (·.1) = l.map (·.1) → Reps K M H (kvs.map (·.2)) (l.map (·.2)) → Own K M H (.ref a) (.ok l) F
  | ot {a : Addr} {kvs : List (List Key × V)} {l : List (List Key × D)} {F : Addr → Prop} : F a → H a = some (.dT kvs) → kvs.map (·.1) = l.map (·.1) → Reps K M H (kvs.map (·.2)) (l.map (·.2)) → Own K M H (.ref a) (.ot l) F
  | ob {a dx : Addr} {c : Str} {fvs : List (Str × V)} {l : List (Str × O)} {F : Addr → Prop} {G : Addr → Prop} : F a → H a = some (.ins (He.ga K c) dx fvs) → fvs.map (·.1) = l.map (·.1) → Owns K M H (fvs.map (·.2)) (l.map (·.2)) G → (∀ b, G b → F b) → ¬ G a → Own K M H (.ref a) (.ob c l) F
inductive Owns (K : PySem.W.Frag) (M : Addr → Prop) (H : Hp) : List V → List O → (Addr → Prop) → Prop
  | nil {F : Addr → Prop} : Owns K M H [] [] F
  | cons {v : V} {o : O} {vs : List V} {os : List O} {F G G' : Addr → Prop} : Own K M H v o G → Owns K M H vs os G' → (∀ a, G a → G' a → False) → (∀ a, G a → F a) → (∀ a, G' a → F a) → Owns K M H (v :: vs) (o :: os) F
end
section
variable {K : PySem.W.Frag} {M M' : Addr → Prop} {H H' : Hp}
theorem Own.mono {v : V} {o : O} {F F' : Addr → Prop} (h : Own K M H v o F) (s : ∀ a, F a → F' a) : Own K M H v o F' := by
  cases h with
  | sh r => exact .sh r
  | ol f e r => exact .ol (s _ f) e r
  | ok f e k r => exact .ok (s _ f) e k r
  | ot f e k r => exact .ot (s _ f) e k r
  | ob f e k r g n => exact .ob (s _ f) e k r (fun b q => s b (g b q)) n
mutual
theorem Own.tr (t : Tr M H M' H') : ∀ {v : V} {o : O} {F : Addr → Prop}, (∀ a, F a → H' a = H a) → Own K M H v o F → Own K M' H' v o F
  | _, _, _, _, .sh r => .sh (r.tr t)
  | _, _, _, k, .ol f e r => .ol f ((k _ f).trans e) (r.tr t)
  | _, _, _, k, .ok f e z r => .ok f ((k _ f).trans e) z (r.tr t)
  | _, _, _, k, .ot f e z r => .ot f ((k _ f).trans e) z (r.tr t)
  | _, _, _, k, .ob f e z r g n => .ob f ((k _ f).trans e) z (Owns.tr t (fun a q => k a (g a q)) r) g n
theorem Owns.tr (t : Tr M H M' H') : ∀ {vs : List V} {os : List O} {F : Addr → Prop}, (∀ a, F a → H' a = H a) → Owns K M H vs os F → Owns K M' H' vs os F
  | _, _, _, _, .nil => .nil
  | _, _, _, k, .cons a b d s s' => .cons (Own.tr t (fun c q => k c (s c q)) a) (Owns.tr t (fun c q => k c (s' c q)) b) d s s'
end
mutual
/-- what was owned is shared from now on -/
theorem Own.frz : ∀ {v : V} {o : O} {F : Addr → Prop}, (∀ a, F a → ¬ M' a) → (∀ a, ¬ M a → ¬ M' a) → Own K M H v o F → Rep K M' H v o.frz
  | _, _, _, _, m, .sh r => r.tr ⟨fun _ _ _ h _ => h, fun _ _ _ h => h, fun _ _ _ h => h, fun _ _ _ _ h => h, fun _ _ _ _ _ h => h, fun a h _ => m a h⟩
  | _, _, _, f, m, .ol g e r => .lst (f _ g) e (r.tr ⟨fun _ _ _ h _ => h, fun _ _ _ h => h, fun _ _ _ h => h, fun _ _ _ _ h => h, fun _ _ _ _ _ h => h, fun a h _ => m a h⟩)
  | _, _, _, f, m, .ok g e z r => .dk (f _ g) (.inl e) z (r.tr ⟨fun _ _ _ h _ => h, fun _ _ _ h => h, fun _ _ _ h => h, fun _ _ _ _ h => h, fun _ _ _ _ _ h => h, fun a h _ => m a h⟩)
  | _, _, _, f, m, .ot g e z r => .dt (f _ g) (.inl e) z (r.tr ⟨fun _ _ _ h _ => h, fun _ _ _ h => h, fun _ _ _ h => h, fun _ _ _ _ h => h, fun _ _ _ _ _ h => h, fun a h _ => m a h⟩)
  | _, _, _, f, m, .ob (l := l) g e z r s n => .obj (f _ g) e (by
      rw [z]
      clear r z e
      induction l with
      | nil => rfl
      | cons p q ih => rw [List.map_cons, O.frzL, List.map_cons, ih]) (by
      have q := Owns.frz (fun a z => f a (s a z)) m r
      have e2 : (O.frzL l).map (·.2) = (l.map (·.2)).map O.frz := by
        clear r z e q
        induction l with
        | nil => rfl
        | cons p q ih => rw [O.frzL, List.map_cons, List.map_cons, List.map_cons, ih]
      rw [e2]
      exact q)
theorem Owns.frz : ∀ {vs : List V} {os : List O} {F : Addr → Prop}, (∀ a, F a → ¬ M' a) → (∀ a, ¬ M a → ¬ M' a) → Owns K M H vs os F → Reps K M' H vs (os.map O.frz)
  | _, _, _, _, _, .nil => .nil
  | _, _, _, f, m, .cons a b d s s' => .cons (Own.frz (fun c q => f c (s c q)) m a) (Owns.frz (fun c q => f c (s' c q)) m b)
end
end
end Dl
/-! text DL2 -/
set_option Elab.async false
set_option linter.all false
set_option maxRecDepth 100000
set_option maxHeartbeats 1000000
/-! The data layer: steps, what is known of the slots, the readings. -/
namespace Dl
open PySem PySem.Spec PyProof.Rows L2

/-- from (M, H) to (M', H'): what is not in F stands -/
structure Step (F M : Addr → Prop) (H : Hp) (M' : Addr → Prop) (H' : Hp) : Prop where
  kept : ∀ a o, H a = some o → ¬ F a → H' a = some o
  trk : ∀ a, H a ≠ none → H' a ≠ none
  old : ∀ a, M a → ¬ F a → M' a
  new : ∀ a, M' a → M a ∨ H a = none
  tup : ∀ a xs, H a = some (.tup xs) → H' a = some (.tup xs)
abbrev NoF : Addr → Prop := fun _ => False
section
variable {F F1 M M1 M2 M' : Addr → Prop} {H H1 H2 H' : Hp} {K : PySem.W.Frag}
theorem Step.refl : Step F M H M H := ⟨fun _ _ h _ => h, fun _ h => h, fun _ h _ => h, fun _ h => .inl h, fun _ _ h => h⟩
theorem Step.mono (s : Step F M H M' H') (h : ∀ a, F a → F1 a) : Step F1 M H M' H' := ⟨fun a o e n => s.kept a o e fun z => n (h a z), s.trk, fun a m n => s.old a m fun z => n (h a z), s.new, s.tup⟩
theorem Step.trans (s : Step F M H M1 H1) (t : Step F1 M1 H1 M2 H2) (h : ∀ a, F1 a → F a ∨ H a = none) (mt : ∀ a, M a → H a ≠ none) : Step F M H M2 H2 where
  kept := fun a o e n => t.kept a o (s.kept a o e n) fun z => (h a z).elim n fun q => by rw [q] at e; cases e
  trk := fun a e => t.trk a (s.trk a e)
  old := fun a m n => t.old a (s.old a m n) fun z => (h a z).elim n fun q => mt a m q
  new := fun a m => (t.new a m).elim (fun z => s.new a z) fun z => .inr (by
    cases q : H a with
    | none => rfl
    | some o => exact absurd z (s.trk a (by rw [q]; exact fun z => nomatch z)))
  tup := fun a xs h => t.tup a xs (s.tup a xs h)
theorem Step.eq (s : Step F M H M' H') {a : Addr} (t : H a ≠ none) (n : ¬ F a) : H' a = H a := by
  cases q : H a with
  | none => exact absurd q t
  | some o => exact s.kept a o q n
theorem Step.tr (s : Step F M H M' H') (fm : ∀ a, F a → M a) : Tr M H M' H' where
  rd := fun a u m h _ => by
    have n : ¬ F a := fun z => m (fm a z)
    rcases h with h | ⟨o, h⟩
    · exact .inl (s.kept a _ h n)
    · exact .inr ⟨o, s.kept a _ h n⟩
  tup := fun a xs _ h => s.tup a xs h
  lst := fun a xs m h => s.kept a _ h fun z => m (fm a z)
  fl := fun a o xs m h => s.kept a _ h fun z => m (fm a z)
  ins := fun a C dx fs m h => s.kept a _ h fun z => m (fm a z)
  av := fun a m t z => (s.new a z).elim m t
theorem Step.fresh (s : Step F M H M' H') {a : Addr} (h : H' a = none) : H a = none := by
  cases q : H a with
  | none => rfl
  | some o => exact absurd h (s.trk a (by rw [q]; exact fun z => nomatch z))
/-- a new object, shared -/
theorem Step.laid {p : Addr} {o : HO} (h : H p = none) : Step F M H M (upd H p o) where
  kept := fun a u e _ => by rw [upd_ne (ne_of_none e h)]; exact e
  trk := fun a t => by
    by_cases e : a = p
    · rw [e, upd_same]; exact fun z => nomatch z
    · rw [upd_ne e]; exact t
  old := fun _ m _ => m
  new := fun _ m => .inl m
  tup := fun a xs e => by rw [upd_ne (ne_of_none e h)]; exact e
/-- a new object, owned -/
theorem Step.laidM {p : Addr} {o : HO} (h : H p = none) : Step F M H (fun a => M a ∨ a = p) (upd H p o) where
  kept := (Step.laid (F := F) (M := M) h).kept
  trk := (Step.laid (F := F) (M := M) (o := o) h).trk
  old := fun _ m _ => .inl m
  new := fun a m => m.imp_right fun e => by rw [e]; exact h
  tup := (Step.laid (F := F) (M := M) (o := o) h).tup
end

/-- what is known of the slots: ρ; slot 0 may be lent: then it is B.1, of B.2 -/
structure ER (K : PySem.W.Frag) (B : V × (Addr → Prop)) (M : Addr → Prop) (F : Nat → Addr → Prop) (H : Hp) (σ : L2.St) (ρ : List W) : Prop where
  len : σ.length = ρ.length
  own : ∀ i b o, ρ[i]? = some (.w b o) → ∃ v, σ[i]? = some (some v) ∧ Own K M H v o (F i) ∧ (b = true → i = 0 ∧ v = B.1)
  dis : ∀ i j a, F i a → F j a → i = j
  sub : ∀ i a, F i a → M a
  mtr : ∀ a, M a → H a ≠ none
  f0 : ∀ a, B.2 a → F 0 a
  b0 : ∀ a, B.2 a → ∃ o, ρ[0]? = some (.w true o)
abbrev Un (F : Nat → Addr → Prop) : Addr → Prop := fun a => ∃ i, F i a
section
variable {K : PySem.W.Frag} {B : V × (Addr → Prop)} {M M' M1 : Addr → Prop} {F F' F1 : Nat → Addr → Prop} {H H' H1 : Hp} {σ : L2.St} {ρ ρ' ρ1 : List W}
theorem ER.trk (e : ER K B M F H σ ρ) {i : Nat} {a : Addr} (h : F i a) : H a ≠ none := e.mtr a (e.sub i a h)
/-- the slots stand where nothing owned is touched -/
theorem ER.keep (e : ER K B M F H σ ρ) (s : Step NoF M H M' H') (m : ∀ a, M' a → H' a ≠ none) : ER K B M' F H' σ ρ where
  len := e.len
  own := fun i b o h => by
    obtain ⟨v, h1, h2, h3⟩ := e.own i b o h
    exact ⟨v, h1, h2.tr (s.tr fun _ z => z.elim) (fun a q => s.eq (e.trk q) id), h3⟩
  dis := e.dis
  sub := fun i a h => s.old a (e.sub i a h) id
  mtr := m
  f0 := e.f0
  b0 := e.b0
/-- behind an expression; τ: it may change what the slots own -/
structure Post (τ : Bool) (K : PySem.W.Frag) (B : V × (Addr → Prop)) (M : Addr → Prop) (F : Nat → Addr → Prop) (H : Hp) (σ : L2.St) (ρ : List W) (M' : Addr → Prop) (F' : Nat → Addr → Prop) (H' : Hp) (ρ' : List W) : Prop where
  step : Step (fun a => τ = true ∧ Un F a) M H M' H'
  er : ER K B M' F' H' σ ρ'
  grow : ∀ i a, F' i a → F i a ∨ H a = none
  same : τ = false → ρ' = ρ
theorem Post.refl (τ : Bool) (e : ER K B M F H σ ρ) : Post τ K B M F H σ ρ M F H ρ := ⟨Step.refl, e, fun _ _ h => .inl h, fun _ => rfl⟩
theorem Post.keep (τ : Bool) (e : ER K B M F H σ ρ) (s : Step NoF M H M' H') (m : ∀ a, M' a → H' a ≠ none) : Post τ K B M F H σ ρ M' F H' ρ :=
  ⟨s.mono fun _ z => z.elim, e.keep s m, fun _ _ h => .inl h, fun _ => rfl⟩
theorem Post.trans {τ τ' : Bool} (e : ER K B M F H σ ρ) (p : Post τ K B M F H σ ρ M1 F1 H1 ρ1) (q : Post τ' K B M1 F1 H1 σ ρ1 M' F' H' ρ') : Post (τ || τ') K B M F H σ ρ M' F' H' ρ' where
  step := by
    refine (p.step.mono fun a z => ⟨by rw [z.1]; rfl, z.2⟩).trans q.step ?_ e.mtr
    rintro a ⟨t, i, h⟩
    rcases p.grow i a h with h | h
    · exact .inl ⟨by rw [t, Bool.or_true], i, h⟩
    · exact .inr h
  er := q.er
  grow := fun i a h => by
    rcases q.grow i a h with h | h
    · exact p.grow i a h
    · exact .inr (p.step.fresh h)
  same := fun t => by
    obtain ⟨t1, t2⟩ := Bool.or_eq_false_iff.mp t
    exact (q.same t2).trans (p.same t1)
/-- where nothing owned is touched the slots stand as they were -/
theorem Post.clean {τ : Bool} (e : ER K B M F H σ ρ) (p : Post τ K B M F H σ ρ M' F' H' ρ') (t : τ = false) : Step NoF M H M' H' ∧ ER K B M' F H' σ ρ := by
  have s : Step NoF M H M' H' := p.step.mono fun a z => by rw [t] at z; cases z.1
  exact ⟨s, e.keep s p.er.mtr⟩
theorem Post.tr {τ : Bool} (e : ER K B M F H σ ρ) (p : Post τ K B M F H σ ρ M' F' H' ρ') : Tr M H M' H' := p.step.tr fun a z => z.2.elim fun i h => e.sub i a h
end

abbrev DE := List W → Option (D × List W)
abbrev OE := List W → Option (O × List W)
abbrev BE := List W → Option (Bool × List W)
abbrev LE := List W → Option (List D × List W)
/-- an expression: data -/
def tD (K : PySem.W.Frag) (τ : Bool) (g : DE) : TE := fun σ H Q => ∃ B M F ρ d ρ', ER K B M F H σ ρ ∧ g ρ = some (d, ρ') ∧
  ∀ v H' M' F', Post τ K B M F H σ ρ M' F' H' ρ' → Rep K M' H' v d → Q v H'
/-- an expression: data, or a new object -/
def tO (K : PySem.W.Frag) (τ : Bool) (g : OE) : TE := fun σ H Q => ∃ B M F ρ o ρ', ER K B M F H σ ρ ∧ g ρ = some (o, ρ') ∧
  ∀ v H' M' F' G, Post τ K B M F H σ ρ M' F' H' ρ' → Own K M' H' v o G → (∀ i a, F' i a → G a → False) → (∀ a, G a → M' a ∧ H a = none) → Q v H'
def tT (K : PySem.W.Frag) (τ : Bool) (g : BE) : TT := fun σ H Q => ∃ B M F ρ b ρ', ER K B M F H σ ρ ∧ g ρ = some (b, ρ') ∧
  ∀ H' M' F', Post τ K B M F H σ ρ M' F' H' ρ' → Q b H'
def tL (K : PySem.W.Frag) (τ : Bool) (g : LE) : TA := fun σ H Q => ∃ B M F ρ ds ρ', ER K B M F H σ ρ ∧ g ρ = some (ds, ρ') ∧
  ∀ vs H' M' F', Post τ K B M F H σ ρ M' F' H' ρ' → Reps K M' H' vs ds → Q vs H'
abbrev XD (X : Cx) (e : Expr) (τ : Bool) (g : DE) : Prop := PE X e (tD X.K τ g)
abbrev XO (X : Cx) (e : Expr) (τ : Bool) (g : OE) : Prop := PE X e (tO X.K τ g)
abbrev XT (X : Cx) (e : Expr) (τ : Bool) (g : BE) : Prop := PT X e (tT X.K τ g)
abbrev XW (X : Cx) (e : Expr) (τ : Bool) (g : BE) : Prop := PW X e (tT X.K τ g)
abbrev XL (X : Cx) (es : List Expr) (τ : Bool) (g : LE) : Prop := PA X es (tL X.K τ g)

theorem imE {X : Cx} {e : Expr} {t t' : TE} (h : PE X e t) (q : ∀ σ H Q, t' σ H Q → t σ H Q) : PE X e t' := ⟨fun pins s σ H Q I z => h.run pins s σ H Q I (q σ H Q z)⟩
theorem imT {X : Cx} {e : Expr} {t t' : TT} (h : PT X e t) (q : ∀ σ H Q, t' σ H Q → t σ H Q) : PT X e t' := ⟨fun pins s σ H Q I z => h.run pins s σ H Q I (q σ H Q z)⟩
theorem imW {X : Cx} {e : Expr} {t t' : TT} (h : PW X e t) (q : ∀ σ H Q, t' σ H Q → t σ H Q) : PW X e t' := ⟨fun wh pins s σ H Q I z => h.run wh pins s σ H Q I (q σ H Q z)⟩
theorem imA {X : Cx} {e : List Expr} {t t' : TA} (h : PA X e t) (q : ∀ σ H Q, t' σ H Q → t σ H Q) : PA X e t' := ⟨fun pos pins s σ H Q I z => h.run pos pins s σ H Q I (q σ H Q z)⟩
theorem imS {X : Cx} {e : Stmt} {t t' : TS} (h : PS X e t) (q : ∀ D σ H, t' D σ H → t D σ H) : PS X e t' := ⟨fun pins s σ H D I z => h.run pins s σ H D I (q D σ H z)⟩
theorem imSs {X : Cx} {e : List Stmt} {t t' : TS} (h : PSs X e t) (q : ∀ D σ H, t' D σ H → t D σ H) : PSs X e t' := ⟨fun pins s σ H D I z => h.run pins s σ H D I (q D σ H z)⟩
theorem imG {X : Cx} {e : Expr} {t t' : TG} (h : PG X e t) (q : ∀ v σ H Q, t' v σ H Q → t v σ H Q) : PG X e t' := ⟨fun pins s σ H v u Q I r z => h.run pins s σ H v u Q I r (q v σ H Q z)⟩
theorem imI {X : Cx} {tg e : Expr} {t t' : TI} (h : PI X tg e t) (q : ∀ σ H R, t' σ H R → t σ H R) : PI X tg e t' := ⟨fun pins s σ H Q I z => h.run pins s σ H Q I (q σ H Q z)⟩

/-! ### from the one to the other -/
def frE (g : OE) : DE := fun ρ => (g ρ).map fun p => (p.1.frz, p.2)
def shE (g : DE) : OE := fun ρ => (g ρ).map fun p => (.sh p.1, p.2)
section
variable {X : Cx} {e a b c : Expr} {es : List Expr} {τ τ' τ'' : Bool} {pos : Pos}
theorem xo {g : DE} (h : XD X e τ g) : XO X e τ (shE g) := imE h fun σ H Q ⟨B, M, F, ρ, o, ρ', er, eg, k⟩ => by
  unfold shE at eg
  obtain ⟨⟨d, ρ2⟩, e1, e2⟩ := Option.map_eq_some_iff.mp eg
  cases e2
  exact ⟨B, M, F, ρ, d, ρ2, er, e1, fun v H' M' F' p r => k v H' M' F' NoF p (.sh r) (fun _ _ _ z => z) fun _ z => z.elim⟩
/-- G is shared from now on -/
theorem ER.less {K : PySem.W.Frag} {B : V × (Addr → Prop)} {M G : Addr → Prop} {F : Nat → Addr → Prop} {H : Hp} {σ : L2.St} {ρ : List W} (er : ER K B M F H σ ρ) (dj : ∀ i a, F i a → G a → False) : ER K B (fun a => M a ∧ ¬ G a) F H σ ρ where
  len := er.len
  own := fun i b o h => by
    obtain ⟨v, h1, h2, h3⟩ := er.own i b o h
    exact ⟨v, h1, h2.tr ⟨fun _ _ _ z _ => z, fun _ _ _ z => z, fun _ _ _ z => z, fun _ _ _ _ z => z, fun _ _ _ _ _ z => z, fun a m _ z => m z.1⟩ (fun _ _ => rfl), h3⟩
  dis := er.dis
  sub := fun i a h => ⟨er.sub i a h, dj i a h⟩
  mtr := fun a z => er.mtr a z.1
  f0 := er.f0
  b0 := er.b0
theorem Post.less {τ : Bool} {K : PySem.W.Frag} {B : V × (Addr → Prop)} {M M' G : Addr → Prop} {F F' : Nat → Addr → Prop} {H H' : Hp} {σ : L2.St} {ρ ρ' : List W} (er : ER K B M F H σ ρ) (p : Post τ K B M F H σ ρ M' F' H' ρ') (dj : ∀ i a, F' i a → G a → False) (gm : ∀ a, G a → H a = none) :
    Post τ K B M F H σ ρ (fun a => M' a ∧ ¬ G a) F' H' ρ' where
  step := ⟨p.step.kept, p.step.trk, fun a m n => ⟨p.step.old a m n, fun z => er.mtr a m (gm a z)⟩, fun a z => p.step.new a z.1, p.step.tup⟩
  er := p.er.less dj
  grow := p.grow
  same := p.same
theorem xd {g : OE} (h : XO X e τ g) : XD X e τ (frE g) := imE h fun σ H Q ⟨B, M, F, ρ, d, ρ', er, eg, k⟩ => by
  unfold frE at eg
  obtain ⟨⟨o, ρ2⟩, e1, e2⟩ := Option.map_eq_some_iff.mp eg
  cases e2
  refine ⟨B, M, F, ρ, o, ρ2, er, e1, fun v H' M' F' G p r dj gm => ?_⟩
  exact k v H' _ F' (p.less er dj fun a z => (gm a z).2) (r.frz (fun a z q => q.2 z) (fun a m q => m q.1))

/-! ### constants, names -/
def cE (d : D) : DE := fun ρ => some (d, ρ)
def vE (i : Nat) : DE := fun ρ => match ρ[i]? with
  | some (.w _ (.sh d)) => some (d, ρ)
  | _ => none
/-- an owned name read as a value: shared from then on -/
def vF (i : Nat) : DE := fun ρ => match ρ[i]? with
  | some (.w false o) => some (o.frz, ρ.set i (.w false (.sh o.frz)))
  | _ => none
theorem x_c {v : V} {d : D} (h : PE X e (tC v)) (r : ∀ K M H, Rep K M H v d) : XD X e false (cE d) := imE h fun σ H Q ⟨B, M, F, ρ, d', ρ', er, eg, k⟩ => by
  cases eg
  exact k v H M F (.refl _ er) (r _ _ _)
theorem x_int {i j} : XD X (.Constant (.int i) j pos) false (cE (.int i)) := x_c pe_int fun _ _ _ => .int i
theorem x_bl {i j} : XD X (.Constant (.bool i) j pos) false (cE (.bl i)) := x_c pe_bl fun _ _ _ => .bl i
theorem x_non {j} : XD X (.Constant .none j pos) false (cE .non) := x_c pe_non fun _ _ _ => .non
theorem x_str {i j} : XD X (.Constant (.str i) j pos) false (cE (.str i)) := x_c pe_str fun _ _ _ => .str i
theorem x_glob {x : Str} {v : V} {d : D} {u : Value} (hg : Gl X x) (hm : X.mg x = some u) (r : RelV v u) (q : ∀ K M H, Rep K M H v d) (hd : (x == ("__debug__" : Str)) = false := by decide) : XD X (.Name x pos) false (cE d) := x_c (pe_glob hg hm r hd) q
theorem vE_some {i : Nat} {ρ ρ' : List W} {d : D} (h : vE i ρ = some (d, ρ')) : ∃ b, ρ[i]? = some (.w b (.sh d)) ∧ ρ' = ρ := by
  unfold vE at h
  split at h
  · rename_i b d' e
    cases h
    exact ⟨b, e, rfl⟩
  · cases h
theorem x_v {i : Nat} {x : Str} (h : PE X (.Name x pos) (tVar i)) : XD X (.Name x pos) false (vE i) := imE h fun σ H Q ⟨B, M, F, ρ, d, ρ', er, eg, k⟩ => by
  obtain ⟨b, h1, rfl⟩ := vE_some eg
  obtain ⟨v, h2, h3, _⟩ := er.own i b _ h1
  refine ⟨v, h2, k v H M F (.refl _ er) ?_⟩
  cases h3 with
  | sh r => exact r
end
end Dl
/-! text DL3 -/
set_option Elab.async false
set_option linter.all false
set_option maxRecDepth 100000
set_option maxHeartbeats 1000000
/-! The data layer: names that are frozen, operators, tests, displays, arguments. -/
namespace Dl
open PySem PySem.Spec PyProof.Rows L2
section
variable {K : PySem.W.Frag} {B : V × (Addr → Prop)} {M M' M1 : Addr → Prop} {F F' F1 : Nat → Addr → Prop} {H H' H1 : Hp} {σ : L2.St} {ρ ρ' ρ1 : List W}
def upF (F : Nat → Addr → Prop) (i : Nat) (G : Addr → Prop) : Nat → Addr → Prop := fun j a => (j = i ∧ G a) ∨ (j ≠ i ∧ F j a)
/-- slot i holds something else from now on -/
theorem ER.set (er : ER K B M F H σ ρ) {i : Nat} (hb : ∀ o, ρ[i]? ≠ some (.w true o)) {v : V} {o : O} {G : Addr → Prop} (ow : Own K M H v o G) (dj : ∀ j a, F j a → G a → False) (gm : ∀ a, G a → M a) :
    ER K B M (upF F i G) H (σ.set i (some v)) (ρ.set i (.w false o)) where
  len := by rw [List.length_set, List.length_set]; exact er.len
  own := fun j b o' h => by
    by_cases hj : j = i
    · subst hj
      have hl : j < ρ.length := by
        have := (List.getElem?_eq_some_iff.mp h).1
        rw [List.length_set] at this
        exact this
      rw [List.getElem?_set_self hl] at h
      cases h
      exact ⟨v, by rw [List.getElem?_set_self (by rw [er.len]; exact hl)], ow.mono fun a z => .inl ⟨rfl, z⟩, fun z => nomatch z⟩
    · rw [List.getElem?_set_ne (Ne.symm hj)] at h
      obtain ⟨u, h1, h2, h3⟩ := er.own j b o' h
      exact ⟨u, by rw [List.getElem?_set_ne (Ne.symm hj)]; exact h1, h2.mono fun a z => .inr ⟨hj, z⟩, h3⟩
  dis := fun j k a h1 h2 => by
    rcases h1 with ⟨e, h1⟩ | ⟨e, h1⟩ <;> rcases h2 with ⟨e', h2⟩ | ⟨e', h2⟩
    · rw [e, e']
    · exact (dj k a h2 h1).elim
    · exact (dj j a h1 h2).elim
    · exact er.dis j k a h1 h2
  sub := fun j a h => h.elim (fun z => gm a z.2) fun z => er.sub j a z.2
  mtr := er.mtr
  f0 := fun a h => by
    by_cases hi : (0 : Nat) = i
    · obtain ⟨o', e⟩ := er.b0 a h
      rw [hi] at e
      exact absurd e (hb o')
    · exact .inr ⟨hi, er.f0 a h⟩
  b0 := fun a h => by
    obtain ⟨o', e⟩ := er.b0 a h
    by_cases hi : i = 0
    · rw [← hi] at e
      exact absurd e (hb o')
    · exact ⟨o', by rw [List.getElem?_set_ne hi]; exact e⟩
/-- slot i is forgotten -/
theorem ER.drop (er : ER K B M F H σ ρ) {i : Nat} (hb : ∀ o, ρ[i]? ≠ some (.w true o)) (x : Option V) : ER K B M (upF F i NoF) H (σ.set i x) (ρ.set i .un) where
  len := by rw [List.length_set, List.length_set]; exact er.len
  own := fun j b o' h => by
    by_cases hj : j = i
    · subst hj
      have hl : j < ρ.length := by
        have := (List.getElem?_eq_some_iff.mp h).1
        rw [List.length_set] at this
        exact this
      rw [List.getElem?_set_self hl] at h
      cases h
    · rw [List.getElem?_set_ne (Ne.symm hj)] at h
      obtain ⟨u, h1, h2, h3⟩ := er.own j b o' h
      exact ⟨u, by rw [List.getElem?_set_ne (Ne.symm hj)]; exact h1, h2.mono fun a z => .inr ⟨hj, z⟩, h3⟩
  dis := fun j k a h1 h2 => by
    rcases h1 with ⟨e, h1⟩ | ⟨e, h1⟩
    · exact h1.elim
    rcases h2 with ⟨e', h2⟩ | ⟨e', h2⟩
    · exact h2.elim
    exact er.dis j k a h1 h2
  sub := fun j a h => h.elim (fun z => z.2.elim) fun z => er.sub j a z.2
  mtr := er.mtr
  f0 := fun a h => by
    by_cases hi : (0 : Nat) = i
    · obtain ⟨o', e⟩ := er.b0 a h
      rw [hi] at e
      exact absurd e (hb o')
    · exact .inr ⟨hi, er.f0 a h⟩
  b0 := fun a h => by
    obtain ⟨o', e⟩ := er.b0 a h
    by_cases hi : i = 0
    · rw [← hi] at e
      exact absurd e (hb o')
    · exact ⟨o', by rw [List.getElem?_set_ne hi]; exact e⟩
theorem set_same {σ : L2.St} {i : Nat} {x : Option V} (h : σ[i]? = some x) : σ.set i x = σ := by
  apply List.ext_getElem?
  intro j
  by_cases hj : j = i
  · subst hj
    rw [List.getElem?_set_self (List.getElem?_eq_some_iff.mp h).1, h]
  · rw [List.getElem?_set_ne (Ne.symm hj)]
end
section
variable {X : Cx} {e a b c : Expr} {es rest : List Expr} {τ τ' τ'' : Bool} {pos : Pos}
theorem x_vF {i : Nat} {x : Str} (h : PE X (.Name x pos) (tVar i)) : XD X (.Name x pos) true (vF i) := imE h fun σ H Q ⟨B, M, F, ρ, d, ρ', er, eg, k⟩ => by
  unfold vF at eg
  split at eg
  · rename_i o e1
    cases eg
    obtain ⟨v, h2, h3, _⟩ := er.own i false o e1
    refine ⟨v, h2, ?_⟩
    have hb : ∀ o', ρ[i]? ≠ some (.w true o') := fun o' z => by rw [e1] at z; cases z
    have e2 := er.drop hb (some v)
    rw [set_same h2] at e2
    have dj : ∀ j a, upF F i NoF j a → F i a → False := fun j a h q => h.elim (fun z => z.2) fun z => z.1 (er.dis j i a z.2 q)
    have e3 := e2.less (G := F i) dj
    have r : Rep X.K (fun a => M a ∧ ¬ F i a) H v o.frz := h3.frz (fun a z q => q.2 z) fun a m q => m q.1
    have hb2 : ∀ o', (ρ.set i W.un)[i]? ≠ some (.w true o') := fun o' z => by
      rw [List.getElem?_set_self (List.getElem?_eq_some_iff.mp e1).1] at z
      cases z
    have e4 := e3.set hb2 (Own.sh (F := NoF) r) (fun _ _ _ z => z) fun _ z => z.elim
    rw [set_same h2, List.set_set] at e4
    refine k v H _ _ ⟨⟨fun _ _ z _ => z, fun _ z => z, fun a m n => ⟨m, fun z => n ⟨rfl, i, z⟩⟩, fun a z => .inl z.1, fun _ _ z => z⟩, e4, fun j a z => ?_, fun z => nomatch z⟩ r
    rcases z with z | ⟨_, z⟩
    · exact z.2.elim
    · exact .inl (z.elim (fun q => q.2.elim) fun q => q.2)
  · cases eg

/-! ### two operands -/
/-- r of values is f of data; what it makes is new, and shared -/
def RD (K : PySem.W.Frag) (r : R2) (f : D → D → Option D) : Prop := ∀ (M : Addr → Prop) (H : Hp) (x y : V) (dx dy d : D) (Q : VK), (∀ a, M a → H a ≠ none) → Rep K M H x dx → Rep K M H y dy → f dx dy = some d →
  (∀ v H', Step NoF M H M H' → Rep K M H' v d → Q v H') → r x y H Q
def UD (K : PySem.W.Frag) (r : V → Hp → VK → Prop) (f : D → Option D) : Prop := ∀ (M : Addr → Prop) (H : Hp) (x : V) (dx d : D) (Q : VK), (∀ a, M a → H a ≠ none) → Rep K M H x dx → f dx = some d →
  (∀ v H', Step NoF M H M H' → Rep K M H' v d → Q v H') → r x H Q
def op2 (f : D → D → Option D) (g g' : DE) : DE := fun ρ => match g ρ with
  | none => none
  | some (x, ρ1) => match g' ρ1 with
    | none => none
    | some (y, ρ2) => (f x y).map fun d => (d, ρ2)
def op1 (f : D → Option D) (g : DE) : DE := fun ρ => match g ρ with
  | none => none
  | some (x, ρ1) => (f x).map fun d => (d, ρ1)
theorem mtr' {M : Addr → Prop} {H H' : Hp} (s : Step NoF M H M H') (m : ∀ a, M a → H a ≠ none) : ∀ a, M a → H' a ≠ none := fun a z => s.trk a (m a z)
theorem tD_op {K : PySem.W.Frag} {r : R2} {f : D → D → Option D} {g g' : DE} (h : RD K r f) (σ : L2.St) (H : Hp) (Q : VK) (w : tD K (τ || τ') (op2 f g g') σ H Q) : tOp r (tD K τ g) (tD K τ' g') σ H Q := by
  obtain ⟨B, M, F, ρ, d, ρ', er, eg, k⟩ := w
  unfold op2 at eg
  cases e1 : g ρ with
  | none => rw [e1] at eg; cases eg
  | some p =>
    obtain ⟨x, ρ1⟩ := p
    rw [e1] at eg
    cases e2 : g' ρ1 with
    | none => simp only [e2] at eg; cases eg
    | some q =>
      obtain ⟨y, ρ2⟩ := q
      simp only [e2] at eg
      obtain ⟨d', e3, e4⟩ := Option.map_eq_some_iff.mp eg
      cases e4
      refine ⟨B, M, F, ρ, x, ρ1, er, e1, fun v1 H1 M1 F1 p1 r1 => ⟨B, M1, F1, ρ1, y, _, p1.er, e2, fun v2 H2 M2 F2 p2 r2 => ?_⟩⟩
      refine h M2 H2 v1 v2 x y d Q p2.er.mtr (r1.tr (p2.tr p1.er)) r2 e3 fun v H3 s r3 => ?_
      have pk := Post.keep false p2.er s (mtr' s p2.er.mtr)
      have := ((Post.trans er p1 p2).trans er pk)
      rw [Bool.or_false] at this
      exact k v H3 M2 F2 this r3
theorem x_op {op : Operator} {r : R2} {f : D → D → Option D} {g g' : DE} (ho : OpR X (binaryOp op) r) (hd : RD X.K r f) (ha : XD X a τ g) (hb : XD X b τ' g') : XD X (.BinOp a op b pos) (τ || τ') (op2 f g g') := imE (pe_op ho ha hb) (tD_op hd)
theorem x_cmp {op : CmpOp} {r : R2} {f : D → D → Option D} {g g' : DE} (ho : OpR X (compareOp op) r) (hd : RD X.K r f) (ha : XD X a τ g) (hb : XD X b τ' g') (hm : behindInMarks op b = false) : XD X (.Compare a [op] [b] pos) (τ || τ') (op2 f g g') := imE (pe_cmpR ho ha hb hm) (tD_op hd)
theorem x_un {op : UnaryOp} {r : V → Hp → VK → Prop} {f : D → Option D} {g : DE} (ho : UnR X (unaryOp op) r) (hd : UD X.K r f) (ha : XD X a τ g) : XD X (.UnaryOp op a pos) τ (op1 f g) := imE (pe_un ho ha) fun σ H Q ⟨B, M, F, ρ, d, ρ', er, eg, k⟩ => by
  unfold op1 at eg
  cases e1 : g ρ with
  | none => rw [e1] at eg; cases eg
  | some p =>
    obtain ⟨x, ρ1⟩ := p
    rw [e1] at eg
    obtain ⟨d', e3, e4⟩ := Option.map_eq_some_iff.mp eg
    cases e4
    refine ⟨B, M, F, ρ, x, _, er, e1, fun v1 H1 M1 F1 p1 r1 => ?_⟩
    refine hd M1 H1 v1 x d Q p1.er.mtr r1 e3 fun v H3 s r3 => ?_
    have pk := Post.keep false p1.er s (mtr' s p1.er.mtr)
    have := p1.trans er pk
    rw [Bool.or_false] at this
    exact k v H3 M1 F1 this r3
/-- a test out of a value that is True or False -/
def bE (g : DE) : BE := fun ρ => match g ρ with
  | some (.bl b, ρ') => some (b, ρ')
  | _ => none
theorem bE_some {g : DE} {ρ ρ' : List W} {b : Bool} (h : bE g ρ = some (b, ρ')) : g ρ = some (.bl b, ρ') := by
  unfold bE at h
  split at h
  · cases h; assumption
  · cases h
theorem t_cmp {op : CmpOp} {r : R2} {f : D → D → Option D} {g g' : DE} (ho : OpR X (compareOp op) r) (hd : RD X.K r f) (ha : XD X a τ g) (hb : XD X b τ' g') (hm : behindInMarks op b = false) : XT X (.Compare a [op] [b] pos) (τ || τ') (bE (op2 f g g')) :=
  imT (pt_cmpR ho ha hb hm) fun σ H Q ⟨B, M, F, ρ, d, ρ', er, eg, k⟩ => by
    refine tD_op hd σ H _ ⟨B, M, F, ρ, .bl d, ρ', er, bE_some eg, fun v H' M' F' p r => ?_⟩
    cases r
    exact ⟨d, rfl, k H' M' F' p⟩
theorem t_val {g : DE} (h : XD X e τ g) (he : ∀ whole, isTrue e X.env whole = (do let v ← whole; standAt e.pos; holding [v] (truthy v)) := by intro _; rfl) : XT X e τ (bE g) := imT (pt_val h he) fun σ H Q ⟨B, M, F, ρ, d, ρ', er, eg, k⟩ =>
  ⟨B, M, F, ρ, .bl d, ρ', er, bE_some eg, fun v H' M' F' p r => by cases r; exact ⟨d, rfl, k H' M' F' p⟩⟩
/-! ### and, or, not -/
def andB (g g' : BE) : BE := fun ρ => match g ρ with
  | some (true, ρ1) => g' ρ1
  | some (false, ρ1) => some (false, ρ1)
  | none => none
def orB (g g' : BE) : BE := fun ρ => match g ρ with
  | some (true, ρ1) => some (true, ρ1)
  | some (false, ρ1) => g' ρ1
  | none => none
def notB (g : BE) : BE := fun ρ => (g ρ).map fun p => (!p.1, p.2)
theorem Post.up {K : PySem.W.Frag} {B : V × (Addr → Prop)} {M M' : Addr → Prop} {F F' : Nat → Addr → Prop} {H H' : Hp} {σ : L2.St} {ρ ρ' : List W} (p : Post τ K B M F H σ ρ M' F' H' ρ') : Post (τ || τ') K B M F H σ ρ M' F' H' ρ' :=
  ⟨p.step.mono fun a z => ⟨by rw [z.1]; rfl, z.2⟩, p.er, p.grow, fun t => p.same (Bool.or_eq_false_iff.mp t).1⟩
theorem w_one {op : BoolOp} {g : BE} (h : XT X a τ g) (ho : op = .And ∨ op = .Or := by first | exact .inl rfl | exact .inr rfl) : XW X (.BoolOp op [a] pos) τ g := by
  rcases ho with rfl | rfl
  · exact pw_and1 h
  · exact pw_or1 h
theorem w_and {g g' : BE} (ha : XT X a τ g) (hb : XW X (.BoolOp .And (b :: rest) pos) τ' g') : XW X (.BoolOp .And (a :: b :: rest) pos) (τ || τ') (andB g g') := imW (pw_and ha hb) fun σ H Q ⟨B, M, F, ρ, d, ρ', er, eg, k⟩ => by
  unfold andB at eg
  split at eg
  · rename_i ρ1 e1
    refine ⟨B, M, F, ρ, true, ρ1, er, e1, fun H1 M1 F1 p1 => ?_⟩
    refine iteT ?_
    exact ⟨B, M1, F1, ρ1, d, ρ', p1.er, eg, fun H2 M2 F2 p2 => k H2 M2 F2 (p1.trans er p2)⟩
  · rename_i ρ1 e1
    cases eg
    refine ⟨B, M, F, ρ, false, _, er, e1, fun H1 M1 F1 p1 => ?_⟩
    refine iteF ?_
    exact k H1 M1 F1 p1.up
  · cases eg
theorem w_or {g g' : BE} (ha : XT X a τ g) (hb : XW X (.BoolOp .Or (b :: rest) pos) τ' g') : XW X (.BoolOp .Or (a :: b :: rest) pos) (τ || τ') (orB g g') := imW (pw_or ha hb) fun σ H Q ⟨B, M, F, ρ, d, ρ', er, eg, k⟩ => by
  unfold orB at eg
  split at eg
  · rename_i ρ1 e1
    cases eg
    refine ⟨B, M, F, ρ, true, _, er, e1, fun H1 M1 F1 p1 => ?_⟩
    refine iteT ?_
    exact k H1 M1 F1 p1.up
  · rename_i ρ1 e1
    refine ⟨B, M, F, ρ, false, ρ1, er, e1, fun H1 M1 F1 p1 => ?_⟩
    refine iteF ?_
    exact ⟨B, M1, F1, ρ1, d, ρ', p1.er, eg, fun H2 M2 F2 p2 => k H2 M2 F2 (p1.trans er p2)⟩
  · cases eg
theorem t_w {g : BE} (h : XW X e τ g) : XT X e τ g := h.pt
theorem t_not {g : BE} (h : XT X a τ g) : XT X (.UnaryOp .Not a pos) τ (notB g) := imT (pt_not h) fun σ H Q ⟨B, M, F, ρ, d, ρ', er, eg, k⟩ => by
  unfold notB at eg
  obtain ⟨⟨b, ρ1⟩, e1, e2⟩ := Option.map_eq_some_iff.mp eg
  cases e2
  exact ⟨B, M, F, ρ, b, ρ1, er, e1, fun H1 M1 F1 p1 => k H1 M1 F1 p1⟩
/-- as values -/
def andD (g g' : DE) : DE := fun ρ => match g ρ with
  | some (.bl true, ρ1) => g' ρ1
  | some (.bl false, ρ1) => some (.bl false, ρ1)
  | _ => none
def orD (g g' : DE) : DE := fun ρ => match g ρ with
  | some (.bl true, ρ1) => some (.bl true, ρ1)
  | some (.bl false, ρ1) => g' ρ1
  | _ => none
def notD : D → Option D
  | .bl b => some (.bl !b)
  | _ => none
theorem x_one {op} {g : DE} (h : XD X a τ g) : XD X (.BoolOp op [a] pos) τ g := pe_one h
theorem x_and {g g' : DE} (ha : XD X a τ g) (hb : XD X (.BoolOp .And (b :: rest) pos) τ' g') : XD X (.BoolOp .And (a :: b :: rest) pos) (τ || τ') (andD g g') := imE (pe_and ha hb) fun σ H Q ⟨B, M, F, ρ, d, ρ', er, eg, k⟩ => by
  unfold andD at eg
  split at eg
  · rename_i ρ1 e1
    refine ⟨B, M, F, ρ, _, ρ1, er, e1, fun v H1 M1 F1 p1 r1 => ?_⟩
    cases r1
    refine ⟨true, rfl, ?_⟩
    refine iteT ?_
    exact ⟨B, M1, F1, ρ1, d, ρ', p1.er, eg, fun v2 H2 M2 F2 p2 r2 => k v2 H2 M2 F2 (p1.trans er p2) r2⟩
  · rename_i ρ1 e1
    cases eg
    refine ⟨B, M, F, ρ, _, _, er, e1, fun v H1 M1 F1 p1 r1 => ?_⟩
    cases r1
    refine ⟨false, rfl, ?_⟩
    refine iteF ?_
    exact k _ H1 M1 F1 p1.up (.bl false)
  · cases eg
theorem x_or {g g' : DE} (ha : XD X a τ g) (hb : XD X (.BoolOp .Or (b :: rest) pos) τ' g') : XD X (.BoolOp .Or (a :: b :: rest) pos) (τ || τ') (orD g g') := imE (pe_or ha hb) fun σ H Q ⟨B, M, F, ρ, d, ρ', er, eg, k⟩ => by
  unfold orD at eg
  split at eg
  · rename_i ρ1 e1
    cases eg
    refine ⟨B, M, F, ρ, _, _, er, e1, fun v H1 M1 F1 p1 r1 => ?_⟩
    cases r1
    refine ⟨true, rfl, ?_⟩
    refine iteT ?_
    exact k _ H1 M1 F1 p1.up (.bl true)
  · rename_i ρ1 e1
    refine ⟨B, M, F, ρ, _, ρ1, er, e1, fun v H1 M1 F1 p1 r1 => ?_⟩
    cases r1
    refine ⟨false, rfl, ?_⟩
    refine iteF ?_
    exact ⟨B, M1, F1, ρ1, d, ρ', p1.er, eg, fun v2 H2 M2 F2 p2 r2 => k v2 H2 M2 F2 (p1.trans er p2) r2⟩
  · cases eg
theorem x_not {g : DE} (ha : XD X a τ g) : XD X (.UnaryOp .Not a pos) τ (op1 notD g) := imE (pe_not ha) fun σ H Q ⟨B, M, F, ρ, d, ρ', er, eg, k⟩ => by
  unfold op1 at eg
  cases e1 : g ρ with
  | none => rw [e1] at eg; cases eg
  | some p =>
    obtain ⟨x, ρ1⟩ := p
    rw [e1] at eg
    obtain ⟨d', e3, e4⟩ := Option.map_eq_some_iff.mp eg
    cases e4
    refine ⟨B, M, F, ρ, x, _, er, e1, fun v1 H1 M1 F1 p1 r1 => ?_⟩
    cases x with
    | bl b =>
      cases r1
      cases e3
      exact ⟨b, rfl, k _ H1 M1 F1 p1 (.bl _)⟩
    | _ => cases e3
/-- a if t else b -/
def ifE (t : BE) (g g' : DE) : DE := fun ρ => match t ρ with
  | some (true, ρ1) => g ρ1
  | some (false, ρ1) => g' ρ1
  | none => none
theorem x_if {t : BE} {g g' : DE} (hc : XT X c τ t) (ha : XD X a τ' g) (hb : XD X b τ'' g') : XD X (.IfExp c a b pos) (τ || (τ' || τ'')) (ifE t g g') := imE (pe_ifExp hc ha hb) fun σ H Q ⟨B, M, F, ρ, d, ρ', er, eg, k⟩ => by
  unfold ifE at eg
  split at eg
  · rename_i ρ1 e1
    refine ⟨B, M, F, ρ, _, ρ1, er, e1, fun H1 M1 F1 p1 => ?_⟩
    refine iteT ?_
    exact ⟨B, M1, F1, ρ1, d, ρ', p1.er, eg, fun v2 H2 M2 F2 p2 r2 => k v2 H2 M2 F2 (p1.trans er p2.up) r2⟩
  · rename_i ρ1 e1
    refine ⟨B, M, F, ρ, _, ρ1, er, e1, fun H1 M1 F1 p1 => ?_⟩
    refine iteF ?_
    refine ⟨B, M1, F1, ρ1, d, ρ', p1.er, eg, fun v2 H2 M2 F2 p2 r2 => k v2 H2 M2 F2 (p1.trans er ?_) r2⟩
    rw [Bool.or_comm]
    exact p2.up
  · cases eg
/-! ### arguments, displays -/
def nilL : LE := fun ρ => some ([], ρ)
def consL (g : DE) (l : LE) : LE := fun ρ => match g ρ with
  | none => none
  | some (d, ρ1) => (l ρ1).map fun p => (d :: p.1, p.2)
theorem l_nil : XL X [] false nilL := imA pa_nil fun σ H Q ⟨B, M, F, ρ, d, ρ', er, eg, k⟩ => by
  cases eg
  exact k [] H M F (.refl _ er) .nil
theorem l_cons {g : DE} {l : LE} (ha : XD X e τ g) (hr : XL X es τ' l) (hs : starEach (e :: es) X.env = (false, eval e X.env) :: starEach es X.env := by rfl) : XL X (e :: es) (τ || τ') (consL g l) := imA (pa_cons ha hr hs) fun σ H Q ⟨B, M, F, ρ, d, ρ', er, eg, k⟩ => by
  unfold consL at eg
  cases e1 : g ρ with
  | none => rw [e1] at eg; cases eg
  | some p =>
    obtain ⟨x, ρ1⟩ := p
    rw [e1] at eg
    obtain ⟨⟨ds, ρ2⟩, e3, e4⟩ := Option.map_eq_some_iff.mp eg
    cases e4
    refine ⟨B, M, F, ρ, x, ρ1, er, e1, fun v1 H1 M1 F1 p1 r1 => ⟨B, M1, F1, ρ1, ds, _, p1.er, e3, fun vs H2 M2 F2 p2 r2 => ?_⟩⟩
    exact k _ H2 M2 F2 (p1.trans er p2) (.cons (r1.tr (p2.tr p1.er)) r2)
def small (n : Nat) : Bool := decide (n ≤ 100000)
theorem small_le {n : Nat} (h : small n = true) : n ≤ sizeLine := Nat.le_trans (of_decide_eq_true h) (by decide)
theorem small_lt {n : Nat} (h : small n = true) : n < sizeLine := Nat.lt_of_le_of_lt (of_decide_eq_true h) (by decide)
def tupE (l : LE) : DE := fun ρ => match l ρ with
  | none => none
  | some (ds, ρ1) => if small ds.length then some (.tup ds, ρ1) else none
def lstE (l : LE) : OE := fun ρ => match l ρ with
  | none => none
  | some (ds, ρ1) => if small ds.length then some (.ol ds, ρ1) else none
theorem x_tup {x1} {l : LE} (h : XL X es τ l) : XD X (.Tuple es x1 pos) τ (tupE l) := imE (pe_tup h) fun σ H Q ⟨B, M, F, ρ, d, ρ', er, eg, k⟩ => by
  unfold tupE at eg
  split at eg
  · cases eg
  · rename_i ds ρ1 e1
    split at eg
    · rename_i hs
      cases eg
      refine ⟨B, M, F, ρ, ds, _, er, e1, fun vs H1 M1 F1 p1 r1 => ⟨by rw [r1.length]; exact small_le hs, fun p hp => ?_⟩⟩
      have s : Step NoF M1 H1 M1 (upd H1 p (.tup vs)) := .laid hp
      have pk := p1.trans er (Post.keep false p1.er s (mtr' s p1.er.mtr))
      rw [Bool.or_false] at pk
      exact k _ _ M1 F1 pk (.tup trivial upd_same (r1.tr (s.tr fun _ z => z.elim)))
    · cases eg
theorem x_lst {l : LE} (h : XL X es τ l) : XO X (.List es pos) τ (lstE l) := imE (pe_lst h) fun σ H Q ⟨B, M, F, ρ, d, ρ', er, eg, k⟩ => by
  unfold lstE at eg
  split at eg
  · cases eg
  · rename_i ds ρ1 e1
    split at eg
    · rename_i hs
      cases eg
      refine ⟨B, M, F, ρ, ds, _, er, e1, fun vs H1 M1 F1 p1 r1 => ⟨by rw [r1.length]; exact small_le hs, fun p hp => ?_⟩⟩
      have s : Step NoF M1 H1 (fun a => M1 a ∨ a = p) (upd H1 p (.lst vs)) := .laidM hp
      have mt : ∀ a, M1 a ∨ a = p → upd H1 p (.lst vs) a ≠ none := fun a z => z.elim (fun q => s.trk a (p1.er.mtr a q)) fun q => by rw [q, upd_same]; exact fun z => nomatch z
      have pk := p1.trans er (Post.keep false p1.er s mt)
      rw [Bool.or_false] at pk
      refine k _ _ _ F1 pk (G := fun a => a = p) (.ol rfl upd_same (r1.tr (s.tr fun _ z => z.elim))) (fun i a z q => ?_) fun a z => ⟨.inr z, ?_⟩
      · rw [q] at z
        exact p1.er.trk z hp
      · rw [z]; exact p1.step.fresh hp
    · cases eg
end
end Dl
/-! text DL4 -/
set_option Elab.async false
set_option linter.all false
set_option maxRecDepth 100000
set_option maxHeartbeats 1000000
/-! The data layer: statements, loops, comprehensions. -/
namespace Dl
open PySem PySem.Spec PyProof.Rows L2

inductive Res where
  | nx (ρ : List W) | rt (o : O) (ρ : List W) | bk (ρ : List W) | ct (ρ : List W)
abbrev DS := List W → Option Res
/-- behind a statement -/
structure PostS (K : PySem.W.Frag) (B : V × (Addr → Prop)) (M : Addr → Prop) (F : Nat → Addr → Prop) (H : Hp) (M' : Addr → Prop) (F' : Nat → Addr → Prop) (H' : Hp) (σ' : L2.St) (ρ' : List W) : Prop where
  step : Step (Un F) M H M' H'
  er : ER K B M' F' H' σ' ρ'
  grow : ∀ i a, F' i a → Un F a ∨ H a = none
section
variable {K : PySem.W.Frag} {B : V × (Addr → Prop)} {M M' M1 : Addr → Prop} {F F' F1 : Nat → Addr → Prop} {H H' H1 : Hp} {σ σ' σ1 : L2.St} {ρ ρ' ρ1 : List W} {τ : Bool}
theorem PostS.refl (er : ER K B M F H σ ρ) : PostS K B M F H M F H σ ρ := ⟨Step.refl, er, fun i a z => .inl ⟨i, z⟩⟩
theorem Post.toS (p : Post τ K B M F H σ ρ M' F' H' ρ') : PostS K B M F H M' F' H' σ ρ' := ⟨p.step.mono fun a z => z.2, p.er, fun i a z => (p.grow i a z).imp_left fun q => ⟨i, q⟩⟩
theorem PostS.trans (er : ER K B M F H σ ρ) (p : PostS K B M F H M1 F1 H1 σ1 ρ1) (q : PostS K B M1 F1 H1 M' F' H' σ' ρ') : PostS K B M F H M' F' H' σ' ρ' where
  step := p.step.trans q.step (fun a z => z.elim fun i z => p.grow i a z) er.mtr
  er := q.er
  grow := fun i a z => (q.grow i a z).elim (fun z => z.elim fun j z => p.grow j a z) fun z => .inr (p.step.fresh z)
theorem PostS.tr (er : ER K B M F H σ ρ) (p : PostS K B M F H M' F' H' σ' ρ') : Tr M H M' H' := p.step.tr fun a z => z.elim fun i h => er.sub i a h
/-- the slots change, the heap stands -/
theorem PostS.slots (er : ER K B M F' H σ' ρ') (g : ∀ i a, F' i a → Un F a ∨ H a = none) : PostS K B M F H M F' H σ' ρ' := ⟨Step.refl, er, g⟩
end
def SK (K : PySem.W.Frag) (B : V × (Addr → Prop)) (M : Addr → Prop) (F : Nat → Addr → Prop) (H : Hp) (E : Ends) : Res → Prop
  | .nx ρ' => ∀ σ' H' M' F', PostS K B M F H M' F' H' σ' ρ' → E.nx σ' H'
  | .bk ρ' => ∀ σ' H' M' F', PostS K B M F H M' F' H' σ' ρ' → E.bk σ' H'
  | .ct ρ' => ∀ σ' H' M' F', PostS K B M F H M' F' H' σ' ρ' → E.ct σ' H'
  | .rt o ρ' => ∀ v σ' H' M' F' G, PostS K B M F H M' F' H' σ' ρ' → Own K M' H' v o G → (∀ i a, F' i a → G a → False) → (∀ a, G a → M' a ∧ (Un F a ∨ H a = none)) → E.rt v H'
def tS (K : PySem.W.Frag) (g : DS) : TS := fun E σ H => ∃ B M F ρ r, ER K B M F H σ ρ ∧ g ρ = some r ∧ SK K B M F H E r
abbrev XS (X : Cx) (st : Stmt) (g : DS) : Prop := PS X st (tS X.K g)
abbrev XSs (X : Cx) (st : List Stmt) (g : DS) : Prop := PSs X st (tS X.K g)
theorem SK.back {K : PySem.W.Frag} {B : V × (Addr → Prop)} {M M1 : Addr → Prop} {F F1 : Nat → Addr → Prop} {H H1 : Hp} {σ σ1 : L2.St} {ρ ρ1 : List W} {E : Ends} {r : Res} (er : ER K B M F H σ ρ) (p : PostS K B M F H M1 F1 H1 σ1 ρ1) (k : SK K B M F H E r) : SK K B M1 F1 H1 E r := by
  cases r with
  | nx ρ' => exact fun σ' H' M' F' q => k σ' H' M' F' (p.trans er q)
  | bk ρ' => exact fun σ' H' M' F' q => k σ' H' M' F' (p.trans er q)
  | ct ρ' => exact fun σ' H' M' F' q => k σ' H' M' F' (p.trans er q)
  | rt o ρ' => exact fun v σ' H' M' F' G q ow dj gm => k v σ' H' M' F' G (p.trans er q) ow dj fun a z => ⟨(gm a z).1, (gm a z).2.elim (fun z => z.elim fun j z => p.grow j a z) fun z => .inr (p.step.fresh z)⟩
/-- where the statement does not run on, what would follow it does not matter -/
theorem SK.ends {K : PySem.W.Frag} {B : V × (Addr → Prop)} {M : Addr → Prop} {F : Nat → Addr → Prop} {H : Hp} {E E' : Ends} {r : Res} (h : ∀ ρ', r ≠ .nx ρ') (e1 : E.bk = E'.bk) (e2 : E.ct = E'.ct) (e3 : E.rt = E'.rt) (k : SK K B M F H E r) : SK K B M F H E' r := by
  cases r with
  | nx ρ' => exact absurd rfl (h ρ')
  | bk ρ' => unfold SK at k ⊢; rw [← e1]; exact k
  | ct ρ' => unfold SK at k ⊢; rw [← e2]; exact k
  | rt o ρ' => unfold SK at k ⊢; rw [← e3]; exact k
/-! ### blocks -/
def skipS : DS := fun ρ => some (.nx ρ)
def seqS (g g' : DS) : DS := fun ρ => match g ρ with
  | some (.nx ρ1) => g' ρ1
  | r => r
section
variable {X : Cx} {e a b c : Expr} {st : Stmt} {es : List Expr} {rest sts : List Stmt} {τ τ' τ'' : Bool} {pos : Pos}
theorem s_nil : XSs X [] skipS := imSs pss_nil fun E σ H ⟨B, M, F, ρ, r, er, eg, k⟩ => by
  cases eg
  exact k σ H M F (.refl er)
theorem s_one {g : DS} (h : XS X st g) : XSs X [st] g := pss_one h
theorem s_cons {g g' : DS} (h : XS X st g) (h' : XSs X rest g') : XSs X (st :: rest) (seqS g g') := imSs (pss_cons h h') fun E σ H ⟨B, M, F, ρ, r, er, eg, k⟩ => by
  unfold seqS at eg
  cases e1 : g ρ with
  | none => rw [e1] at eg; cases eg
  | some r1 =>
    rw [e1] at eg
    refine ⟨B, M, F, ρ, r1, er, e1, ?_⟩
    cases r1 with
    | nx ρ1 => exact fun σ1 H1 M1 F1 p => ⟨B, M1, F1, ρ1, r, p.er, eg, SK.back er p k⟩
    | bk ρ1 => cases eg; exact k
    | ct ρ1 => cases eg; exact k
    | rt o ρ1 => cases eg; exact k
theorem s_pass : XS X (.Pass pos) skipS := imS ps_pass fun E σ H ⟨B, M, F, ρ, r, er, eg, k⟩ => by
  cases eg
  exact k σ H M F (.refl er)
theorem s_doc {x j pos'} : XS X (.Expr (.Constant (.str x) j pos) pos') skipS := imS ps_doc fun E σ H ⟨B, M, F, ρ, r, er, eg, k⟩ => by
  cases eg
  exact k σ H M F (.refl er)
def brkS : DS := fun ρ => some (.bk ρ)
def conS : DS := fun ρ => some (.ct ρ)
def stuckS : DS := fun _ => none
theorem s_break : XS X (.Break pos) brkS := imS ps_break fun E σ H ⟨B, M, F, ρ, r, er, eg, k⟩ => by
  cases eg
  exact k σ H M F (.refl er)
theorem s_continue : XS X (.Continue pos) conS := imS ps_continue fun E σ H ⟨B, M, F, ρ, r, er, eg, k⟩ => by
  cases eg
  exact k σ H M F (.refl er)
/-- a statement that is never come to -/
theorem s_never : XS X st stuckS := imS ps_never fun E σ H ⟨B, M, F, ρ, r, er, eg, k⟩ => by cases eg
def retS (g : OE) : DS := fun ρ => (g ρ).map fun p => .rt p.1 p.2
theorem s_ret {g : OE} (h : XO X e τ g) : XS X (.Return (some e) pos) (retS g) := imS (ps_ret h) fun E σ H ⟨B, M, F, ρ, r, er, eg, k⟩ => by
  unfold retS at eg
  obtain ⟨⟨o, ρ1⟩, e1, e2⟩ := Option.map_eq_some_iff.mp eg
  cases e2
  refine ⟨B, M, F, ρ, o, ρ1, er, e1, fun v H' M' F' G p ow dj gm => k v σ H' M' F' G p.toS ow dj fun a z => ⟨(gm a z).1, .inr (gm a z).2⟩⟩
/-- an owned name handed back -/
def retV (i : Nat) : DS := fun ρ => match ρ[i]? with
  | some (.w false o) => some (.rt o (ρ.set i .un))
  | _ => none
theorem s_retV {i : Nat} {x : Str} {p : Pos} (h : PE X (.Name x p) (tVar i)) : XS X (.Return (some (.Name x p)) pos) (retV i) := imS (ps_ret h) fun E σ H ⟨B, M, F, ρ, r, er, eg, k⟩ => by
  unfold retV at eg
  split at eg
  · rename_i o e1
    cases eg
    obtain ⟨v, h2, h3, _⟩ := er.own i false o e1
    refine ⟨v, h2, ?_⟩
    have e2 := er.drop (i := i) (fun o' z => by rw [e1] at z; cases z) (some v)
    rw [set_same h2] at e2
    refine k v σ H M _ (F i) (.slots e2 fun j a z => ?_) h3 (fun j a z q => ?_) fun a z => ⟨er.sub i a z, .inl ⟨i, z⟩⟩
    · exact z.elim (fun q => q.2.elim) fun q => .inl ⟨j, q.2⟩
    · exact z.elim (fun w => w.2) fun w => w.1 (er.dis j i a w.2 q)
  · cases eg
theorem s_retN : XS X (.Return none pos) (retS (shE (cE .non))) := imS ps_retN fun E σ H ⟨B, M, F, ρ, r, er, eg, k⟩ => by
  cases eg
  exact k .non σ H M F NoF (.refl er) (.sh .non) (fun _ _ _ z => z) fun _ z => z.elim
def dropS (g : DE) : DS := fun ρ => (g ρ).map fun p => .nx p.2
theorem s_expr {g : DE} (h : XD X e τ g) (hs : swapsWith e none pos.line X.env = pure false := by rfl) : XS X (.Expr e pos) (dropS g) := imS (ps_expr h hs) fun E σ H ⟨B, M, F, ρ, r, er, eg, k⟩ => by
  unfold dropS at eg
  obtain ⟨⟨o, ρ1⟩, e1, e2⟩ := Option.map_eq_some_iff.mp eg
  cases e2
  exact ⟨B, M, F, ρ, o, ρ1, er, e1, fun v H' M' F' p r => k σ H' M' F' p.toS⟩
def ifS (t : BE) (g g' : DS) : DS := fun ρ => match t ρ with
  | some (true, ρ1) => g ρ1
  | some (false, ρ1) => g' ρ1
  | none => none
theorem s_if {t : BE} {g g' : DS} {a b : List Stmt} (hc : XT X c τ t) (ha : XSs X a g) (hb : XSs X b g') : XS X (.If c a b pos) (ifS t g g') := imS (ps_if hc ha hb) fun E σ H ⟨B, M, F, ρ, r, er, eg, k⟩ => by
  unfold ifS at eg
  split at eg
  · rename_i ρ1 e1
    refine ⟨B, M, F, ρ, _, ρ1, er, e1, fun H1 M1 F1 p => ?_⟩
    refine iteT ?_
    exact ⟨B, M1, F1, ρ1, r, p.er, eg, SK.back er p.toS k⟩
  · rename_i ρ1 e1
    refine ⟨B, M, F, ρ, _, ρ1, er, e1, fun H1 M1 F1 p => ?_⟩
    refine iteF ?_
    exact ⟨B, M1, F1, ρ1, r, p.er, eg, SK.back er p.toS k⟩
  · cases eg
/-! ### stores -/
def nb (ρ : List W) (i : Nat) : Bool := match ρ[i]? with
  | some (.w true _) => false
  | _ => true
theorem nb_ne {ρ : List W} {i : Nat} (h : nb ρ i = true) : ∀ o, ρ[i]? ≠ some (.w true o) := fun o z => by
  unfold nb at h
  rw [z] at h
  cases h
def asgS (i : Nat) (g : OE) : DS := fun ρ => match g ρ with
  | some (o, ρ1) => if nb ρ1 i then some (.nx (ρ1.set i (.w false o))) else none
  | none => none
theorem tS_asg {K : PySem.W.Frag} {i : Nat} {g : OE} (E : Ends) (σ : L2.St) (H : Hp) (w : tS K (asgS i g) E σ H) : tAsg (tO K τ g) (gName i) E σ H := by
  obtain ⟨B, M, F, ρ, r, er, eg, k⟩ := w
  unfold asgS at eg
  split at eg
  · rename_i o ρ1 e1
    split at eg
    · rename_i hb
      cases eg
      refine ⟨B, M, F, ρ, o, ρ1, er, e1, fun v H' M' F' G p ow dj gm => ?_⟩
      have e2 := p.er.set (nb_ne hb) ow dj fun a z => (gm a z).1
      refine k _ H' M' _ ⟨p.toS.step, e2, fun j a z => ?_⟩
      rcases z with ⟨_, z⟩ | ⟨_, z⟩
      · exact .inr (gm a z).2
      · exact p.toS.grow j a z
    · cases eg
  · cases eg
/-- name = value -/
theorem s_set {i : Nat} {x : Str} {pos' : Pos} {g : OE} (hN : X.N.Nodup) (hi : X.N[i]? = some x) (hx : Loc X.env.scope x) (he : XO X e τ g) (hs : swapsWith e (some (.Name x pos')) pos.line X.env = pure false := by rfl)
    (hf : X.fn x = true ∨ X.env.scope.names.lookup x = some .local := by first | exact .inl rfl | exact .inr rfl | assumption) : XS X (.Assign [.Name x pos'] e pos) (asgS i g) := imS (ps_set hN hi hx he hs hf) fun E σ H w => tS_asg E σ H w
/-- two names out of a displayed pair -/
def parS (i j : Nat) (l : LE) : DS := fun ρ => match l ρ with
  | some ([x, y], ρ1) => if nb ρ1 i && nb ρ1 j then some (.nx ((ρ1.set i (.w false (.sh x))).set j (.w false (.sh y)))) else none
  | _ => none
theorem ER.setD {K : PySem.W.Frag} {B : V × (Addr → Prop)} {M : Addr → Prop} {F : Nat → Addr → Prop} {H : Hp} {σ : L2.St} {ρ : List W} (er : ER K B M F H σ ρ) {i : Nat} (hb : ∀ o, ρ[i]? ≠ some (.w true o)) {v : V} {d : D} (r : Rep K M H v d) : ER K B M (upF F i NoF) H (σ.set i (some v)) (ρ.set i (.w false (.sh d))) :=
  er.set hb (.sh r) (fun _ _ _ z => z) fun _ z => z.elim
theorem upF_le {F : Nat → Addr → Prop} {i j : Nat} {a : Addr} (h : upF F i NoF j a) : F j a := h.elim (fun z => z.2.elim) fun z => z.2
theorem tS_par {K : PySem.W.Frag} {i j : Nat} {l : LE} (hij : i ≠ j) (E : Ends) (σ : L2.St) (H : Hp) (w : tS K (parS i j l) E σ H) : tPar i j (tL K τ l) E σ H := by
  obtain ⟨B, M, F, ρ, r, er, eg, k⟩ := w
  unfold parS at eg
  split at eg
  · rename_i x y ρ1 e1
    split at eg
    · rename_i hb
      cases eg
      obtain ⟨h1, h2⟩ := Bool.and_eq_true_iff.mp hb
      refine ⟨B, M, F, ρ, _, ρ1, er, e1, fun vs H' M' F' p r => ?_⟩
      cases r with
      | cons r1 r =>
        cases r with
        | cons r2 r =>
          cases r
          refine ⟨_, _, rfl, ?_⟩
          have e2 := p.er.setD (nb_ne h1) r1
          have hb2 : ∀ o, (ρ1.set i (W.w false (.sh x)))[j]? ≠ some (.w true o) := fun o z => by
            rw [List.getElem?_set_ne hij] at z
            exact nb_ne h2 o z
          have e3 := e2.setD hb2 r2
          exact k _ H' M' _ ⟨p.toS.step, e3, fun m a z => p.toS.grow m a (upF_le (upF_le z))⟩
    · cases eg
  · cases eg
/-! ### targets of names -/
/-- v, that is d, is bound to names in vs -/
def tB (K : PySem.W.Frag) (vs : List Nat) (b : D → List W → Option (List W)) : TG := fun v σ H Q => ∃ B M F ρ d ρ', ER K B M F H σ ρ ∧ Rep K M H v d ∧ b d ρ = some ρ' ∧
  ∀ σ' F', ER K B M F' H σ' ρ' → (∀ i a, F' i a → F i a) → wipe σ' vs = wipe σ vs → Q σ' H
def tBs (K : PySem.W.Frag) (vs : List Nat) (b : List D → List W → Option (List W)) : TGs := fun ws σ H Q => ∃ B M F ρ ds ρ', ER K B M F H σ ρ ∧ Reps K M H ws ds ∧ b ds ρ = some ρ' ∧
  ∀ σ' F', ER K B M F' H σ' ρ' → (∀ i a, F' i a → F i a) → wipe σ' vs = wipe σ vs → Q σ' H
abbrev XB (X : Cx) (tg : Expr) (vs : List Nat) (b : D → List W → Option (List W)) : Prop := PG X tg (tB X.K vs b)
abbrev XBs (X : Cx) (tg : List Expr) (vs : List Nat) (b : List D → List W → Option (List W)) : Prop := PGs X tg (tBs X.K vs b)
def bN (i : Nat) : D → List W → Option (List W) := fun d ρ => some (ρ.set i (.w false (.sh d)))
def bNil : List D → List W → Option (List W) := fun ds ρ => match ds with
  | [] => some ρ
  | _ => none
def bCons (b : D → List W → Option (List W)) (bs : List D → List W → Option (List W)) : List D → List W → Option (List W) := fun ds ρ => match ds with
  | d :: r => (b d ρ).bind fun ρ1 => bs r ρ1
  | [] => none
def bT (n : Nat) (bs : List D → List W → Option (List W)) : D → List W → Option (List W) := fun d ρ => match d with
  | .tup l => if l.length = n then bs l ρ else none
  | _ => none
theorem ER.nb0 {K : PySem.W.Frag} {B : V × (Addr → Prop)} {M : Addr → Prop} {F : Nat → Addr → Prop} {H : Hp} {σ : L2.St} {ρ : List W} (er : ER K B M F H σ ρ) {i : Nat} (hi : i ≠ 0) : ∀ o, ρ[i]? ≠ some (.w true o) := fun o z => by
  obtain ⟨v, _, _, h⟩ := er.own i true o z
  exact hi (h rfl).1
theorem wipe_set {σ : L2.St} {i : Nat} {x : Option V} : ∀ {vs : List Nat}, i ∈ vs → wipe (σ.set i x) vs = wipe σ vs
  | [], h => nomatch h
  | v :: vs, h => by
    by_cases hv : i ∈ vs
    · unfold wipe; rw [wipe_set hv]
    · have e : i = v := (List.mem_cons.mp h).resolve_right hv
      subst e
      unfold wipe
      have : ∀ vs : List Nat, i ∉ vs → wipe (σ.set i x) vs = (wipe σ vs).set i x := by
        intro vs
        induction vs with
        | nil => intro _; rfl
        | cons u us ih =>
          intro hn
          unfold wipe
          rw [ih fun z => hn (List.mem_cons_of_mem _ z), List.set_comm _ _ (fun z => hn (by rw [← z]; exact List.mem_cons_self))]
      rw [this vs hv, List.set_set]
theorem g_name {i : Nat} {x : Str} {vs : List Nat} (hN : X.N.Nodup) (hi : X.N[i]? = some x) (hx : Loc X.env.scope x) (hv : i ∈ vs := by decide) (h0 : i ≠ 0 := by decide)
    (hf : X.fn x = true ∨ X.env.scope.names.lookup x = some .local := by first | exact .inl rfl | exact .inr rfl | assumption) : XB X (.Name x pos) vs (bN i) := imG (pg_name hN hi hx hf) fun v σ H Q ⟨B, M, F, ρ, d, ρ', er, r, eb, k⟩ => by
  cases eb
  exact k _ _ (er.setD (er.nb0 h0) r) (fun j a z => upF_le z) (wipe_set hv)
theorem imGs {tg : List Expr} {t t' : TGs} (h : PGs X tg t) (q : ∀ v σ H Q, t' v σ H Q → t v σ H Q) : PGs X tg t' := ⟨fun pins s σ H vs us Q I r z => h.run pins s σ H vs us Q I r (q vs σ H Q z)⟩
theorem gs_nil {vs : List Nat} : XBs X [] vs bNil := imGs pgs_nil fun ws σ H Q ⟨B, M, F, ρ, ds, ρ', er, r, eb, k⟩ => by
  unfold bNil at eb
  cases ds with
  | nil =>
    cases eb
    cases r
    exact ⟨rfl, k σ F er (fun _ _ z => z) rfl⟩
  | cons d r => cases eb
theorem gs_cons {vs : List Nat} {b1 : D → List W → Option (List W)} {bs : List D → List W → Option (List W)} (h : XB X e vs b1) (h' : XBs X es vs bs)
    (hs : List.map (fun x => x.snd) (assignEach (e :: es) X.env) = assign e X.env :: List.map (fun x => x.snd) (assignEach es X.env) := by rfl) : XBs X (e :: es) vs (bCons b1 bs) := imGs (pgs_cons h h' hs) fun ws σ H Q ⟨B, M, F, ρ, ds, ρ', er, r, eb, k⟩ => by
  unfold bCons at eb
  cases r with
  | nil => cases eb
  | @cons v d ws ds r1 r2 =>
    obtain ⟨ρ1, e1, e2⟩ := Option.bind_eq_some_iff.mp eb
    exact ⟨_, _, rfl, B, M, F, ρ, d, ρ1, er, r1, e1, fun σ1 F1 er1 f1 w1 => ⟨B, M, F1, ρ1, ds, ρ', er1, r2, e2, fun σ2 F2 er2 f2 w2 => k σ2 F2 er2 (fun i a z => f1 i a (f2 i a z)) (w2.trans w1)⟩⟩
theorem g_tup {k n : Nat} {vs : List Nat} {bs : List D → List W → Option (List W)} (hc : X.calm = true) (h : XBs X es vs bs) (hn : (assignEach es X.env).length = n := by rfl) (hst : (assignEach es X.env).findIdx? (·.1) = none := by rfl) : XB X (.Tuple es k pos) vs (bT n bs) :=
  imG (pg_tup (n := n) hc h hn hst) fun v σ H Q ⟨B, M, F, ρ, d, ρ', er, r, eb, kk⟩ => by
  unfold bT at eb
  cases d with
  | tup l =>
    cases r with
    | tup m e rs =>
      dsimp only at eb
      split at eb
      · rename_i hl
        exact ⟨_, _, rfl, .of e, rs.length.trans hl, B, M, F, ρ, l, ρ', er, rs, eb, kk⟩
      · cases eb
  | _ => cases eb
end
end Dl
/-! text DL5 -/
set_option Elab.async false
set_option linter.all false
set_option maxRecDepth 100000
set_option maxHeartbeats 1000000
/-! The data layer: loops and comprehensions. -/
namespace Dl
open PySem PySem.Spec PyProof.Rows L2

/-- J walks ds, whatever is done to what is owned -/
def Wk (K : PySem.W.Frag) (M : Addr → Prop) (H : Hp) (J : It) (ds : List D) : Prop := ∃ (G : Hp → Prop) (Y : Nat → Hp → V → Hp → Prop), Walk J ds.length G Y ∧
  ∀ (F M1 : Addr → Prop) (H1 : Hp), (∀ a, F a → M a ∨ H a = none) → Step F M H M1 H1 → (∀ a, M1 a → H1 a ≠ none) → G H1 ∧
    ∀ i x H2, i < ds.length → Y i H1 x H2 → Step NoF M1 H1 M1 H2 ∧ ∃ d, ds[i]? = some d ∧ Rep K M1 H2 x d
def tI (K : PySem.W.Frag) (τ : Bool) (g : LE) : TI := fun σ H R => ∃ B M F ρ ds ρ', ER K B M F H σ ρ ∧ g ρ = some (ds, ρ') ∧
  ∀ J H' M' F', Post τ K B M F H σ ρ M' F' H' ρ' → Wk K M' H' J ds → R J H'
abbrev XI (X : Cx) (tg e : Expr) (τ : Bool) (g : LE) : Prop := PI X tg e (tI X.K τ g)

/-! ### for -/
def forR (b : D → List W → Option (List W)) (body : DS) : List D → List W → Option Res
  | [], ρ => some (.nx ρ)
  | d :: ds, ρ => match b d ρ with
    | none => none
    | some ρ1 => match body ρ1 with
      | none => none
      | some (.nx ρ2) => forR b body ds ρ2
      | some (.ct ρ2) => forR b body ds ρ2
      | some (.bk ρ2) => some (.nx ρ2)
      | some (.rt o ρ2) => some (.rt o ρ2)
def forS (g : LE) (b : D → List W → Option (List W)) (body : DS) : DS := fun ρ => match g ρ with
  | none => none
  | some (ds, ρ1) => forR b body ds ρ1
theorem Step.un {F M : Addr → Prop} {H H' : Hp} (s : Step NoF M H M H') : Step F M H M H' := s.mono fun _ z => z.elim
section
variable {X : Cx} {tg iter elt e : Expr} {body : List Stmt} {ifs : List Expr} {τ τ' τ'' : Bool} {pos : Pos}
theorem s_for {g : LE} {vs : List Nat} {b : D → List W → Option (List W)} {gb : DS} (hp : PassesOwn (model X.prog X.w) X.A X.env X.xe) (hc : X.calm = true) (hi : XI X tg iter τ g) (hg : XB X tg vs b) (hb : XSs X body gb)
    (hs : ∀ x, foldedSetIterable iter X.env x = pure x := by intro _; rfl) : XS X (.For tg iter body [] pos) (forS g b gb) := imS (ps_for hp hc hi hg hb hs) fun E σ H ⟨B, M, F, ρ, r, er, eg, k⟩ => by
  unfold forS at eg
  split at eg
  · cases eg
  rename_i ds ρ1 e1
  refine ⟨B, M, F, ρ, ds, ρ1, er, e1, fun J H1 M1 F1 p1 ⟨G, Y, wk, st⟩ => ?_⟩
  have er1 := p1.er
  have k1 := SK.back er p1.toS k
  refine for_it wk (fun i σ' H' => ∃ M' F' ρ', PostS X.K B M1 F1 H1 M' F' H' σ' ρ' ∧ forR b gb (ds.drop i) ρ' = some r) ⟨M1, F1, ρ1, .refl er1, eg⟩ ?_ ?_ ?_
  · rintro i σ' H' _ ⟨M', F', ρ', p, _⟩
    exact (st _ M' H' (fun a z => z.elim fun j z => .inl (er1.sub j a z)) p.step p.er.mtr).1
  · rintro i x σ' H' H2 hi ⟨M', F', ρ', p, ef⟩ hy
    obtain ⟨s2, d, hd, rx⟩ := (st _ M' H' (fun a z => z.elim fun j z => .inl (er1.sub j a z)) p.step p.er.mtr).2 i x H2 hi hy
    have hl := (List.getElem?_eq_some_iff.mp hd)
    rw [List.drop_eq_getElem_cons hl.1, hl.2] at ef
    unfold forR at ef
    have er2 := p.er.keep s2 (mtr' s2 p.er.mtr)
    have p2 : PostS X.K B M1 F1 H1 M' F' H2 σ' ρ' := p.trans er1 ⟨s2.un, er2, fun i a z => .inl ⟨i, z⟩⟩
    cases e2 : b d ρ' with
    | none => rw [e2] at ef; cases ef
    | some ρ2 =>
      simp only [e2] at ef
      refine ⟨B, M', F', ρ', d, ρ2, er2, rx, e2, fun σ3 F3 er3 f3 _ => ?_⟩
      have p3 : PostS X.K B M1 F1 H1 M' F3 H2 σ3 ρ2 := p2.trans er1 (.slots er3 fun i a z => .inl ⟨i, f3 i a z⟩)
      cases e3 : gb ρ2 with
      | none => rw [e3] at ef; cases ef
      | some r3 =>
        simp only [e3] at ef
        refine ⟨B, M', F3, ρ2, r3, er3, e3, ?_⟩
        cases r3 with
        | nx ρ3 => exact fun σ4 H4 M4 F4 p4 => ⟨M4, F4, ρ3, p3.trans er1 p4, ef⟩
        | ct ρ3 => exact fun σ4 H4 M4 F4 p4 => ⟨M4, F4, ρ3, p3.trans er1 p4, ef⟩
        | bk ρ3 =>
          cases ef
          exact SK.back er1 p3 k1
        | rt o ρ3 =>
          cases ef
          exact SK.back er1 p3 k1
  · rintro σ' H' ⟨M', F', ρ', p, ef⟩
    rw [List.drop_length] at ef
    cases ef
    exact k1 σ' H' M' F' p

/-! ### while -/
def whileR (t : BE) (body : DS) : Nat → List W → Option Res
  | 0, _ => none
  | n + 1, ρ => match t ρ with
    | none => none
    | some (false, ρ1) => some (.nx ρ1)
    | some (true, ρ1) => match body ρ1 with
      | none => none
      | some (.nx ρ2) => whileR t body n ρ2
      | some (.ct ρ2) => whileR t body n ρ2
      | some (.bk ρ2) => some (.nx ρ2)
      | some (.rt o ρ2) => some (.rt o ρ2)
theorem s_while {c : Expr} {t : BE} {gb : DS} (n : Nat) (hp : PassesOwn (model X.prog X.w) X.A X.env X.xe) (hc : XT X c τ t) (hb : XSs X body gb) : XS X (.While c body [] pos) (whileR t gb n) := imS (ps_while hp hc hb) fun E σ H ⟨B, M, F, ρ, r, er, eg, k⟩ => by
  refine ⟨fun m σ' H' => ∃ M' F' ρ', PostS X.K B M F H M' F' H' σ' ρ' ∧ whileR t gb m ρ' = some r, ⟨n, M, F, ρ, .refl er, eg⟩, ?_⟩
  rintro m σ' H' ⟨M', F', ρ', p, ef⟩
  cases m with
  | zero => cases ef
  | succ m =>
    unfold whileR at ef
    cases e1 : t ρ' with
    | none => rw [e1] at ef; cases ef
    | some q =>
      obtain ⟨bb, ρ1⟩ := q
      rw [e1] at ef
      refine ⟨B, M', F', ρ', bb, ρ1, p.er, e1, fun H1 M1 F1 p1 => ?_⟩
      have p2 := p.trans er p1.toS
      cases bb with
      | false =>
        refine iteF ?_
        cases ef
        exact k σ' H1 M1 F1 p2
      | true =>
        refine iteT ?_
        dsimp only at ef
        refine ⟨fun σ' H' => ∃ M' F' ρ', PostS X.K B M F H M' F' H' σ' ρ' ∧ whileR t gb m ρ' = some r, fun σ' H' z => ⟨m, Nat.lt_succ_self m, z⟩, ?_⟩
        cases e3 : gb ρ1 with
        | none => rw [e3] at ef; cases ef
        | some r3 =>
          rw [e3] at ef
          refine ⟨B, M1, F1, ρ1, r3, p1.er, e3, ?_⟩
          cases r3 with
          | nx ρ3 => exact fun σ4 H4 M4 F4 p4 => ⟨M4, F4, ρ3, p2.trans er p4, ef⟩
          | ct ρ3 => exact fun σ4 H4 M4 F4 p4 => ⟨M4, F4, ρ3, p2.trans er p4, ef⟩
          | bk ρ3 =>
            cases ef
            exact SK.back er p2 k
          | rt o ρ3 =>
            cases ef
            exact SK.back er p2 k

/-! ### comprehensions -/
def wipeW (ρ : List W) : List Nat → List W
  | [] => ρ
  | v :: vs => (wipeW ρ vs).set v .un
def backW (ρ ρ0 : List W) : List Nat → List W
  | [] => ρ
  | v :: vs => (backW ρ ρ0 vs).set v (ρ0.getD v .un)
def lcR (vs : List Nat) (b : D → List W → Option (List W)) (gt : BE) (ge : DE) : List D → List W → Option (List D × List W)
  | [], ρ => some ([], ρ)
  | d :: ds, ρ => match b d ρ with
    | none => none
    | some ρ1 => match gt ρ1 with
      | none => none
      | some (false, ρ2) => lcR vs b gt ge ds (wipeW ρ2 vs)
      | some (true, ρ2) => match ge ρ2 with
        | none => none
        | some (x, ρ3) => (lcR vs b gt ge ds (wipeW ρ3 vs)).map fun p => (x :: p.1, p.2)
def lcE (vs : List Nat) (g : LE) (b : D → List W → Option (List W)) (gt : BE) (ge : DE) : OE := fun ρ => match g ρ with
  | none => none
  | some (ds, ρ1) => if small ds.length then (lcR vs b gt ge ds (wipeW ρ1 vs)).map fun p => (.ol p.1, backW p.2 ρ1 vs) else none
def yesB : BE := fun ρ => some (true, ρ)
section
variable {K : PySem.W.Frag} {B : V × (Addr → Prop)} {M M' : Addr → Prop} {F F' : Nat → Addr → Prop} {H H' : Hp} {σ σ' : L2.St} {ρ ρ' : List W}
def wipeF (F : Nat → Addr → Prop) : List Nat → Nat → Addr → Prop
  | [] => F
  | v :: vs => upF (wipeF F vs) v NoF
theorem wipeF_le : ∀ {vs : List Nat} {i : Nat} {a : Addr}, wipeF F vs i a → F i a
  | [], _, _, h => h
  | _ :: _, _, _, h => wipeF_le (upF_le h)
theorem wipeF_out : ∀ {vs : List Nat} {i : Nat} {a : Addr}, i ∈ vs → ¬ wipeF F vs i a
  | v :: vs, i, a, h, q => by
    rcases q with ⟨_, q⟩ | ⟨n, q⟩
    · exact q
    · rcases List.mem_cons.mp h with e | h
      · exact n e
      · exact wipeF_out h q
theorem ER.wipe (er : ER K B M F H σ ρ) : ∀ {vs : List Nat}, (∀ v ∈ vs, v ≠ 0) → ER K B M (wipeF F vs) H (L2.wipe σ vs) (wipeW ρ vs)
  | [], _ => er
  | v :: vs, h => by
    have e2 := ER.wipe er (vs := vs) fun u z => h u (List.mem_cons_of_mem _ z)
    exact e2.drop (e2.nb0 (h v List.mem_cons_self)) Option.none
/-- the slots vs hold again what they held at the start (σ, ρ, F, at M, H) -/
theorem wipeW_length (ρ : List W) : ∀ vs : List Nat, (wipeW ρ vs).length = ρ.length
  | [] => rfl
  | v :: vs => by unfold wipeW; rw [List.length_set, wipeW_length ρ vs]
theorem backW_length (ρ ρ0 : List W) : ∀ vs : List Nat, (backW ρ ρ0 vs).length = ρ.length
  | [] => rfl
  | v :: vs => by unfold backW; rw [List.length_set, backW_length ρ ρ0 vs]
theorem backW_in {ρ0 : List W} {i : Nat} : ∀ {vs : List Nat}, i ∈ vs → i < ρ.length → (backW ρ ρ0 vs)[i]? = some (ρ0.getD i .un)
  | v :: vs, h, hl => by
    unfold backW
    by_cases e : i = v
    · subst e
      rw [List.getElem?_set_self (by rw [backW_length]; exact hl)]
    · rw [List.getElem?_set_ne (Ne.symm e)]
      exact backW_in ((List.mem_cons.mp h).resolve_left e) hl
theorem backW_out {ρ0 : List W} {i : Nat} : ∀ {vs : List Nat}, i ∉ vs → (backW ρ ρ0 vs)[i]? = ρ[i]?
  | [], _ => rfl
  | v :: vs, h => by
    unfold backW
    rw [List.getElem?_set_ne (fun e => h (by rw [e]; exact List.mem_cons_self))]
    exact backW_out fun z => h (List.mem_cons_of_mem _ z)
theorem ER.back {M0 : Addr → Prop} {F0 : Nat → Addr → Prop} {H0 : Hp} {ρ0 : List W} {vs : List Nat} (e0 : ER K B M0 F0 H0 σ ρ0) (hv : ∀ v ∈ vs, v ≠ 0) (e : ER K B M F H (L2.wipe σ vs) ρ) (s : Step (Un (wipeF F0 vs)) M0 H0 M H) (gr : ∀ i a, F i a → Un (wipeF F0 vs) a ∨ H0 a = none) :
    ER K B M (fun i a => if i ∈ vs then F0 i a else F i a) H σ (backW ρ ρ0 vs) := by
  have hlen : σ.length = ρ.length := by rw [← e.len, wipe_length]
  have app : ∀ i ∈ vs, ∀ a, F0 i a → ¬ Un (wipeF F0 vs) a := fun i hi a h ⟨j, q⟩ => by
    have := e0.dis i j a h (wipeF_le q)
    subst this
    exact wipeF_out hi q
  refine ⟨by rw [backW_length]; exact hlen, fun i b o h => ?_, fun i j a h1 h2 => ?_, fun i a h => ?_, e.mtr, fun a h => ?_, fun a h => ?_⟩
  · by_cases hi : i ∈ vs
    · have hl : i < ρ.length := by
        have := (List.getElem?_eq_some_iff.mp h).1
        rw [backW_length] at this
        exact this
      rw [backW_in hi hl] at h
      have h0 : ρ0[i]? = some (.w b o) := by
        rw [List.getD_eq_getElem?_getD] at h
        cases q : ρ0[i]? with
        | none => rw [q] at h; cases h
        | some w' => rw [q] at h; exact h
      obtain ⟨v, h1, h2, h3⟩ := e0.own i b o h0
      refine ⟨v, h1, ?_, h3⟩
      simp only [if_pos hi]
      exact h2.tr (s.tr fun a z => z.elim fun j z => e0.sub j a (wipeF_le z)) fun a z => s.eq (e0.trk z) (app i hi a z)
    · rw [backW_out hi] at h
      obtain ⟨v, h1, h2, h3⟩ := e.own i b o h
      simp only [if_neg hi]
      exact ⟨v, (wipe_some h1).1, h2, h3⟩
  · by_cases hi : i ∈ vs <;> by_cases hj : j ∈ vs <;> simp only [if_pos, if_neg, hi, hj, if_true, if_false] at h1 h2
    · exact e0.dis i j a h1 h2
    · rcases gr j a h2 with z | z
      · exact (app i hi a h1 z).elim
      · exact (e0.trk h1 z).elim
    · rcases gr i a h1 with z | z
      · exact (app j hj a h2 z).elim
      · exact (e0.trk h2 z).elim
    · exact e.dis i j a h1 h2
  · by_cases hi : i ∈ vs <;> simp only [if_pos, if_neg, hi, if_true, if_false] at h
    · exact s.old a (e0.sub i a h) (app i hi a h)
    · exact e.sub i a h
  · have h0 : (0 : Nat) ∉ vs := fun z => hv 0 z rfl
    simp only [if_neg h0]
    exact e.f0 a h
  · obtain ⟨o, q⟩ := e.b0 a h
    exact ⟨o, by rw [backW_out fun z => hv 0 z rfl]; exact q⟩
end
end
end Dl
/-! text DL6 -/
set_option Elab.async false
set_option linter.all false
set_option maxRecDepth 100000
set_option maxHeartbeats 1000000
/-! The data layer: list comprehensions. -/
namespace Dl
open PySem PySem.Spec PyProof.Rows L2

/-- b changes the slots vs alone -/
def OnlyIn (vs : List Nat) (b : D → List W → Option (List W)) : Prop := ∀ d ρ ρ', b d ρ = some ρ' → wipeW ρ' vs = wipeW ρ vs
def OnlyIns (vs : List Nat) (b : List D → List W → Option (List W)) : Prop := ∀ d ρ ρ', b d ρ = some ρ' → wipeW ρ' vs = wipeW ρ vs
theorem wipeW_set {ρ : List W} {i : Nat} {x : W} : ∀ {vs : List Nat}, i ∈ vs → wipeW (ρ.set i x) vs = wipeW ρ vs
  | [], h => nomatch h
  | v :: vs, h => by
    by_cases hv : i ∈ vs
    · unfold wipeW; rw [wipeW_set hv]
    · have e : i = v := (List.mem_cons.mp h).resolve_right hv
      subst e
      unfold wipeW
      have : ∀ vs : List Nat, i ∉ vs → wipeW (ρ.set i x) vs = (wipeW ρ vs).set i x := by
        intro vs
        induction vs with
        | nil => intro _; rfl
        | cons u us ih =>
          intro hn
          unfold wipeW
          rw [ih fun z => hn (List.mem_cons_of_mem _ z), List.set_comm _ _ (fun z => hn (by rw [← z]; exact List.mem_cons_self))]
      rw [this vs hv, List.set_set]
theorem wipeW_idem (ρ : List W) (vs : List Nat) : wipeW (wipeW ρ vs) vs = wipeW ρ vs := by
  have : ∀ us : List Nat, (∀ u ∈ us, u ∈ vs) → wipeW (wipeW ρ us) vs = wipeW ρ vs := by
    intro us
    induction us with
    | nil => intro _; rfl
    | cons u us ih =>
      intro h
      show wipeW ((wipeW ρ us).set u .un) vs = _
      rw [wipeW_set (h u List.mem_cons_self)]
      exact ih fun x z => h x (List.mem_cons_of_mem _ z)
  exact this vs fun _ z => z
theorem wipeW_out {ρ : List W} {i : Nat} : ∀ {vs : List Nat}, i ∉ vs → (wipeW ρ vs)[i]? = ρ[i]?
  | [], _ => rfl
  | v :: vs, h => by
    unfold wipeW
    rw [List.getElem?_set_ne (fun e => h (by rw [e]; exact List.mem_cons_self))]
    exact wipeW_out fun z => h (List.mem_cons_of_mem _ z)
theorem backW_wipeW (ρ : List W) (vs : List Nat) : backW (wipeW ρ vs) ρ vs = ρ := by
  apply List.ext_getElem?
  intro i
  by_cases hi : i ∈ vs
  · by_cases hl : i < ρ.length
    · rw [backW_in hi (by rw [wipeW_length]; exact hl), List.getD_eq_getElem?_getD, List.getElem?_eq_getElem hl]; rfl
    · rw [List.getElem?_eq_none_iff.mpr (by rw [backW_length, wipeW_length]; omega), List.getElem?_eq_none_iff.mpr (by omega)]
  · rw [backW_out hi, wipeW_out hi]
theorem onlyN {vs : List Nat} {i : Nat} (h : i ∈ vs := by decide) : OnlyIn vs (bN i) := fun d ρ ρ' e => by cases e; exact wipeW_set h
theorem onlyT {vs : List Nat} {n : Nat} {bs : List D → List W → Option (List W)} (h : OnlyIns vs bs) : OnlyIn vs (bT n bs) := fun d ρ ρ' e => by
  unfold bT at e
  cases d with
  | tup l =>
    dsimp only at e
    split at e
    · exact h _ _ _ e
    · cases e
  | _ => cases e
theorem onlyNil {vs : List Nat} : OnlyIns vs bNil := fun d ρ ρ' e => by
  unfold bNil at e
  cases d with
  | nil => cases e; rfl
  | cons a r => cases e
theorem onlyCons {vs : List Nat} {b : D → List W → Option (List W)} {bs : List D → List W → Option (List W)} (h : OnlyIn vs b) (h' : OnlyIns vs bs) : OnlyIns vs (bCons b bs) := fun d ρ ρ' e => by
  unfold bCons at e
  cases d with
  | nil => cases e
  | cons a r =>
    obtain ⟨ρ1, e1, e2⟩ := Option.bind_eq_some_iff.mp e
    exact (h' _ _ _ e2).trans (h _ _ _ e1)
/-- an owned object outside of the slots is written -/
theorem ER.wr {K : PySem.W.Frag} {B : V × (Addr → Prop)} {M : Addr → Prop} {F : Nat → Addr → Prop} {H : Hp} {σ : L2.St} {ρ : List W} {p : Addr} {o : HO} (e : ER K B M F H σ ρ) (hm : M p) (hf : ∀ i, ¬ F i p) (ht : ∀ xs, H p ≠ some (.tup xs)) : ER K B M F (upd H p o) σ ρ := by
  have t : Tr M H M (upd H p o) := by
    have ne : ∀ a, ¬ M a → a ≠ p := fun a m z => m (by rw [z]; exact hm)
    refine ⟨fun a u m h _ => ?_, fun a xs m h => ?_, fun a xs m h => ?_, fun a o xs m h => ?_, fun a C dx fs m h => ?_, fun a m _ => m⟩
    · rcases h with h | ⟨o', h⟩
      · exact .inl (by rw [upd_ne (ne a m)]; exact h)
      · exact .inr ⟨o', by rw [upd_ne (ne a m)]; exact h⟩
    · rw [upd_ne fun z => ht xs (by rw [← z]; exact h)]; exact h
    all_goals (rw [upd_ne (ne a m)]; exact h)
  refine ⟨e.len, fun i b o' h => ?_, e.dis, e.sub, fun a m => ?_, e.f0, e.b0⟩
  · obtain ⟨v, h1, h2, h3⟩ := e.own i b o' h
    exact ⟨v, h1, h2.tr t fun a z => upd_ne fun q => hf i (by rw [← q]; exact z), h3⟩
  · by_cases q : a = p
    · rw [q, upd_same]; exact fun z => nomatch z
    · rw [upd_ne q]; exact e.mtr a m
section
variable {K : PySem.W.Frag} {τ τ' : Bool}
/-- one turn's state -/
structure LcAt (K : PySem.W.Frag) (B : V × (Addr → Prop)) (τ : Bool) (vs : List Nat) (b : D → List W → Option (List W)) (gt : BE) (ge : DE) (M1 : Addr → Prop) (F1 : Nat → Addr → Prop) (H1 : Hp) (σ : L2.St) (ρ1 : List W) (Dl : Addr) (ds : List D) (res : List D × List W) (i : Nat) (H' : Hp)
    (M' : Addr → Prop) (F' : Nat → Addr → Prop) (ρ' : List W) (av : List V) (ad : List D) : Prop where
  step : Step (fun a => τ = true ∧ Un (wipeF F1 vs) a) M1 H1 M' H'
  er : ER K B M' F' H' (L2.wipe σ vs) ρ'
  grow : ∀ j a, F' j a → wipeF F1 vs j a ∨ H1 a = none
  at_ : H' Dl = some (.lst av)
  reps : Reps K M' H' av ad
  md : M' Dl
  nf : ∀ j, ¬ F' j Dl
  len : ad.length ≤ i
  run : (lcR vs b gt ge (ds.drop i) ρ').map (fun p => (ad ++ p.1, p.2)) = some res
  same : τ = false → ρ' = wipeW ρ1 vs
theorem tO_lc {g : LE} {vs : List Nat} {b : D → List W → Option (List W)} {gt : BE} {ge : DE} {τ₀ : Bool} (hv : ∀ v ∈ vs, v ≠ 0) (hb : OnlyIn vs b) (σ : L2.St) (H : Hp) (Q : VK) (w : tO K (τ₀ || (τ || τ')) (lcE vs g b gt ge) σ H Q) :
    tLc (tI K τ₀ g) (tB K vs b) (tT K τ gt) (tD K τ' ge) vs σ H Q := by
  obtain ⟨B, M, F, ρ, o, ρe, er, eg, k⟩ := w
  unfold lcE at eg
  split at eg
  · cases eg
  rename_i ds ρ1 e1
  split at eg
  · rename_i hs
    obtain ⟨res, er0, e0⟩ := Option.map_eq_some_iff.mp eg
    cases e0
    refine ⟨B, M, F, ρ, ds, ρ1, er, e1, fun J H1 M1 F1 p1 wkk Dl hD => ?_⟩
    obtain ⟨G, Y, wk, st⟩ := wkk
    have er1 := p1.er
    have trk1 : ∀ j a, F1 j a → a ≠ Dl := fun j a z q => er1.trk z (by rw [q]; exact hD)
    -- what was shared ahead of the new list
    have s0 : Step NoF M1 H1 (fun a => M1 a ∨ a = Dl) (upd H1 Dl (.lst [])) := .laidM hD
    have mt0 : ∀ a, M1 a ∨ a = Dl → upd H1 Dl (.lst []) a ≠ none := fun a z => z.elim (fun q => s0.trk a (er1.mtr a q)) fun q => by rw [q, upd_same]; exact fun z => nomatch z
    have fsub : ∀ a, Un (wipeF F1 vs) a → M1 a := fun a z => z.elim fun j z => er1.sub j a (wipeF_le z)
    refine lc_it wk (fun i H' => ∃ M' F' ρ' av ad, LcAt K B (τ || τ') vs b gt ge M1 F1 H1 σ ρ1 Dl ds res i H' M' F' ρ' av ad) ?_ ?_ ?_ ?_
    · refine ⟨fun a => M1 a ∨ a = Dl, wipeF F1 vs, wipeW ρ1 vs, [], [], ⟨s0.mono fun _ z => z.elim, (er1.keep s0 mt0).wipe hv, fun j a z => .inl z, upd_same, .nil, .inr rfl, fun j z => trk1 j Dl (wipeF_le z) rfl, Nat.le_refl _, ?_, fun _ => rfl⟩⟩
      rw [List.drop_zero, er0]
      rfl
    · rintro i H' _ ⟨M', F', ρ', av, ad, L⟩
      exact (st _ M' H' (fun a z => .inl (fsub a z.2)) L.step L.er.mtr).1
    · rintro i x H' H2 hi ⟨M', F', ρ', av, ad, L⟩ hy
      obtain ⟨s2, d, hd, rx⟩ := (st _ M' H' (fun a z => .inl (fsub a z.2)) L.step L.er.mtr).2 i x H2 hi hy
      have hl := List.getElem?_eq_some_iff.mp hd
      have ef := L.run
      rw [List.drop_eq_getElem_cons hl.1, hl.2] at ef
      unfold lcR at ef
      have er2 := L.er.keep s2 (mtr' s2 L.er.mtr)
      cases e2 : b d ρ' with
      | none => rw [e2] at ef; cases ef
      | some ρ2 =>
        simp only [e2] at ef
        refine ⟨B, M', F', ρ', d, ρ2, er2, rx, e2, fun σ3 F3 er3 f3 w3 => ⟨w3.trans ?_, ?_⟩⟩
        · have : ∀ us : List Nat, (∀ u ∈ us, u ∈ vs) → L2.wipe (L2.wipe σ us) vs = L2.wipe σ vs := by
            intro us
            induction us with
            | nil => intro _; rfl
            | cons u us ih =>
              intro h
              show L2.wipe ((L2.wipe σ us).set u none) vs = _
              rw [wipe_set (h u List.mem_cons_self)]
              exact ih fun x z => h x (List.mem_cons_of_mem _ z)
          exact this vs fun _ z => z
        have wσ : L2.wipe σ3 vs = L2.wipe σ vs := by
          rw [w3]
          have : ∀ us : List Nat, (∀ u ∈ us, u ∈ vs) → L2.wipe (L2.wipe σ us) vs = L2.wipe σ vs := by
            intro us
            induction us with
            | nil => intro _; rfl
            | cons u us ih =>
              intro h
              show L2.wipe ((L2.wipe σ us).set u none) vs = _
              rw [wipe_set (h u List.mem_cons_self)]
              exact ih fun x z => h x (List.mem_cons_of_mem _ z)
          exact this vs fun _ z => z
        have dl2 : H2 Dl = some (.lst av) := s2.kept _ _ L.at_ id
        cases e3 : gt ρ2 with
        | none => rw [e3] at ef; cases ef
        | some q3 =>
          obtain ⟨ok, ρ3⟩ := q3
          simp only [e3] at ef
          refine ⟨B, M', F3, ρ2, ok, ρ3, er3, e3, fun H3 M3 F4 p3 => ?_⟩
          have nf3 : ∀ j, ¬ F4 j Dl := fun j z => (p3.grow j Dl z).elim (fun q => L.nf j (f3 j Dl q)) fun q => by rw [dl2] at q; cases q
          have at3 : H3 Dl = some (.lst av) := p3.step.kept _ _ dl2 fun z => z.2.elim fun j q => L.nf j (f3 j Dl q)
          have md3 : M3 Dl := p3.step.old _ L.md fun z => z.2.elim fun j q => L.nf j (f3 j Dl q)
          -- the steps so far, against the start
          have st2 : Step (fun a => (τ || τ') = true ∧ Un (wipeF F1 vs) a) M1 H1 M' H2 := L.step.trans (F1 := NoF) s2 (fun _ z => z.elim) er1.mtr
          have st3 : Step (fun a => (τ || τ') = true ∧ Un (wipeF F1 vs) a) M1 H1 M3 H3 := st2.trans p3.step (fun a z => (L.grow _ a (f3 _ a z.2.choose_spec)).imp_left fun q => ⟨by rw [z.1]; rfl, _, q⟩) er1.mtr
          have gr3 : ∀ j a, F4 j a → wipeF F1 vs j a ∨ H1 a = none := fun j a z => (p3.grow j a z).elim (fun q => L.grow j a (f3 j a q)) fun q => .inr (st2.fresh q)
          have rp3 : Reps K M3 H3 av ad := (L.reps.tr (s2.tr fun _ z => z.elim)).tr (p3.tr er3)
          have same3 : (τ || τ') = false → wipeW ρ3 vs = wipeW ρ1 vs := fun t => by
            rw [p3.same (Bool.or_eq_false_iff.mp t).1, hb d ρ' ρ2 e2, L.same t, wipeW_idem]
          cases ok with
          | false =>
            refine iteF ?_
            dsimp only at ef
            have ew := p3.er.wipe hv
            rw [wσ] at ew
            exact ⟨M3, wipeF F4 vs, wipeW ρ3 vs, av, ad, ⟨st3, ew, fun j a z => gr3 j a (wipeF_le z), at3, rp3, md3, fun j z => nf3 j (wipeF_le z), Nat.le_succ_of_le L.len, ef, same3⟩⟩
          | true =>
            refine iteT ?_
            dsimp only at ef
            cases e4 : ge ρ3 with
            | none => rw [e4] at ef; cases ef
            | some q4 =>
              obtain ⟨y, ρ4⟩ := q4
              simp only [e4] at ef
              refine ⟨B, M3, F4, ρ3, y, ρ4, p3.er, e4, fun v H4 M4 F5 p4 r4 => ⟨av, ?_, ?_, ?_⟩⟩
              · exact p4.step.kept _ _ at3 fun z => z.2.elim fun j q => nf3 j q
              · rw [rp3.length]
                exact small_lt (n := ad.length) (decide_eq_true (by have := of_decide_eq_true hs; have := L.len; omega))
              · have nf4 : ∀ j, ¬ F5 j Dl := fun j z => (p4.grow j Dl z).elim (fun q => nf3 j q) fun q => by rw [at3] at q; cases q
                have md4 : M4 Dl := p4.step.old _ md3 fun z => z.2.elim fun j q => nf3 j q
                have at4 : H4 Dl = some (.lst av) := p4.step.kept _ _ at3 fun z => z.2.elim fun j q => nf3 j q
                have st4 : Step (fun a => (τ || τ') = true ∧ Un (wipeF F1 vs) a) M1 H1 M4 H4 := st3.trans p4.step (fun a z => z.2.elim fun j q => (gr3 j a q).imp_left fun q => ⟨by rw [z.1, Bool.or_true], j, q⟩) er1.mtr
                have gr4 : ∀ j a, F5 j a → wipeF F1 vs j a ∨ H1 a = none := fun j a z => (p4.grow j a z).elim (fun q => gr3 j a q) fun q => .inr (st3.fresh q)
                have ew := (p4.er.wr (o := .lst (av ++ [v])) md4 nf4 fun xs z => by rw [at4] at z; cases z).wipe hv
                rw [wσ] at ew
                have tw : Tr M4 H4 M4 (upd H4 Dl (.lst (av ++ [v]))) := by
                  have ne : ∀ a, ¬ M4 a → a ≠ Dl := fun a m z => m (by rw [z]; exact md4)
                  refine ⟨fun a u m h _ => ?_, fun a xs m h => ?_, fun a xs m h => ?_, fun a o xs m h => ?_, fun a C dx fs m h => ?_, fun a m _ => m⟩
                  · rcases h with h | ⟨o', h⟩
                    · exact .inl (by rw [upd_ne (ne a m)]; exact h)
                    · exact .inr ⟨o', by rw [upd_ne (ne a m)]; exact h⟩
                  · rw [upd_ne fun z => by rw [z, at4] at h; cases h]; exact h
                  all_goals (rw [upd_ne (ne a m)]; exact h)
                have st5 : Step (fun a => (τ || τ') = true ∧ Un (wipeF F1 vs) a) M1 H1 M4 (upd H4 Dl (.lst (av ++ [v]))) := by
                  refine ⟨fun a o' h n => ?_, fun a h => ?_, st4.old, st4.new, fun a xs h => by rw [upd_ne (ne_of_none h hD)]; exact st4.tup a xs h⟩
                  · rw [upd_ne (ne_of_none h hD)]
                    exact st4.kept a o' h n
                  · by_cases q : a = Dl
                    · rw [q, upd_same]; exact fun z => nomatch z
                    · rw [upd_ne q]; exact st4.trk a h
                refine ⟨M4, wipeF F5 vs, wipeW ρ4 vs, av ++ [v], ad ++ [y], ⟨st5, ew, fun j a z => gr4 j a (wipeF_le z), upd_same, (((rp3.tr (p4.tr p3.er)).append (.cons r4 .nil)).tr tw), md4, fun j z => nf4 j (wipeF_le z), ?_, ?_, fun t => ?_⟩⟩
                · rw [List.length_append]
                  exact Nat.succ_le_succ L.len
                · rw [Option.map_map] at ef
                  rw [← ef]
                  congr 1
                  funext p
                  simp
                · rw [p4.same (Bool.or_eq_false_iff.mp t).2]
                  exact same3 t
    · rintro H' ⟨M', F', ρ', av, ad, L⟩
      have ef := L.run
      rw [List.drop_length] at ef
      have e5 : res = (ad, ρ') := by
        unfold lcR at ef
        have := Option.some.inj ef
        rw [← this]
        simp
      subst e5
      have stF : Step (Un (wipeF F1 vs)) M1 H1 M' H' := L.step.mono fun a z => z.2
      have eb := ER.back er1 hv L.er stF fun j a z => (L.grow j a z).imp_left fun q => ⟨j, q⟩
      have pb : Post (τ₀ || (τ || τ')) K B M F H σ ρ M' (fun i a => if i ∈ vs then F1 i a else F' i a) H' (backW ρ' ρ1 vs) := by
        refine Post.trans er p1 ⟨L.step.mono fun a z => ⟨z.1, z.2.elim fun j q => ⟨j, wipeF_le q⟩⟩, eb, fun i a z => ?_, fun t => ?_⟩
        · by_cases hi : i ∈ vs
          · simp only [if_pos hi] at z
            exact .inl z
          · simp only [if_neg hi] at z
            exact (L.grow i a z).imp_left wipeF_le
        · rw [L.same t, backW_wipeW]
      refine k _ H' M' _ (fun a => a = Dl) pb (.ol rfl L.at_ L.reps) (fun i a z q => ?_) fun a z => ?_
      · subst q
        by_cases hi : i ∈ vs
        · simp only [if_pos hi] at z
          exact trk1 i _ z rfl
        · simp only [if_neg hi] at z
          exact L.nf i z
      · subst z
        exact ⟨L.md, p1.step.fresh hD⟩
  · cases eg
end
section
variable {X : Cx} {tg iter elt : Expr} {ifs : List Expr} {scope : Scope} {own : List (Str × Nat)} {pos spos : Pos} {τ₀ τ τ' : Bool} {g : LE} {b : D → List W → Option (List W)} {gt : BE} {ge : DE}
/-- the tests of a clause -/
abbrev XTs (X : Cx) (ifs : List Expr) (τ : Bool) (g : BE) : Prop := PTs X ifs (tT X.K τ g)
theorem ts_nil : XTs X [] false yesB := ⟨fun pins s σ H Q I h => (pts_nil (X := X)).run pins s σ H Q I (by
  obtain ⟨B, M, F, ρ, o, ρ', er, eg, k⟩ := h
  cases eg
  exact k H M F (.refl _ er))⟩
theorem ts_one {c : Expr} {g : BE} (h : XT X c τ g) : XTs X [c] τ g := pts_one h
theorem x_lc (hc : X.calm = true) (hN : X.N.Nodup) (hi : XI X tg iter τ₀ g) (ok : BlkOk X.N X.env.scope scope own) (hv : ∀ v ∈ own.map (·.2), v ≠ 0) (ho : OnlyIn (own.map (·.2)) b)
    (hg : ∀ (s : Shared) (H : Hp) (C : Addr) (cl : List (Str × Addr)) (fp : List Addr), XB (X.blk s H scope (compEnvC scope cl C X.env) fp) tg (own.map (·.2)) b)
    (ht : ∀ (s : Shared) (H : Hp) (C : Addr) (cl : List (Str × Addr)) (fp : List Addr), XTs (X.blk s H scope (compEnvC scope cl C X.env) fp) ifs τ gt)
    (he : ∀ (s : Shared) (H : Hp) (C : Addr) (cl : List (Str × Addr)) (fp : List Addr), XD (X.blk s H scope (compEnvC scope cl C X.env) fp) elt τ' ge) (hs : ∀ x, foldedSetIterable iter X.env x = pure x := by intro _; rfl) :
    XO X (.ListComp elt [⟨tg, iter, ifs, 0⟩] scope pos) (τ₀ || (τ || τ')) (lcE (own.map (·.2)) g b gt ge) :=
  imE (pe_lc hc hN hi ok hg ht he hs) fun σ H Q w => tO_lc hv ho σ H Q w
theorem imTc {te te' : TE} {i : Nat} (q : ∀ σ H Q, te' σ H Q → te σ H Q) (E : Ends) (σ : L2.St) (H : Hp) (w : tAsg te' (gName i) E σ H) : tAsg te (gName i) E σ H := q σ H _ w
theorem s_setLc {i : Nat} {y : Str} {py : Pos} (hc : X.calm = true) (hN : X.N.Nodup) (hy : X.N[i]? = some y) (hyl : X.env.scope.names.lookup y = some .local)
    (hsw : swapsWith (.ListComp elt [⟨tg, iter, ifs, 0⟩] scope pos) (some (.Name y py)) spos.line X.env = pure true) (hi : XI X tg iter τ₀ g) (ok : BlkOk X.N X.env.scope scope own) (hv : ∀ v ∈ own.map (·.2), v ≠ 0) (ho : OnlyIn (own.map (·.2)) b)
    (hg : ∀ (s : Shared) (H : Hp) (C : Addr) (cl : List (Str × Addr)) (fp : List Addr), XB (X.blk s H scope (compEnvC scope cl C X.env) fp) tg (own.map (·.2)) b)
    (ht : ∀ (s : Shared) (H : Hp) (C : Addr) (cl : List (Str × Addr)) (fp : List Addr), XTs (X.blk s H scope (compEnvC scope cl C X.env) fp) ifs τ gt)
    (he : ∀ (s : Shared) (H : Hp) (C : Addr) (cl : List (Str × Addr)) (fp : List Addr), XD (X.blk s H scope (compEnvC scope cl C X.env) fp) elt τ' ge) (hs : ∀ x, foldedSetIterable iter X.env x = pure x := by intro _; rfl) :
    XS X (.Assign [.Name y py] (.ListComp elt [⟨tg, iter, ifs, 0⟩] scope pos) spos) (asgS i (lcE (own.map (·.2)) g b gt ge)) :=
  imS (ps_setLc hc hN hy hyl hsw hi ok hg ht he hs) fun E σ H w => by
    refine imTc (fun σ H Q w => tO_lc hv ho σ H Q w) E σ H (tS_asg (τ := τ₀ || (τ || τ')) E σ H w)
end
end Dl
/-! text DL7 -/
set_option Elab.async false
set_option linter.all false
set_option maxRecDepth 100000
set_option maxHeartbeats 1000000
/-! The data layer: defs, calls, methods, attributes. -/
namespace Dl
open PySem PySem.Spec PyProof.Rows L2

abbrev Mtr (M : Addr → Prop) (H : Hp) : Prop := ∀ a, M a → H a ≠ none
/-- a def whose mirror is m: all arguments shared -/
def spP (K : PySem.W.Frag) (n : Nat) (m : List D → Option O) : Sp := fun vs H Q _ => ∃ M ds o, Mtr M H ∧ Reps K M H vs ds ∧ ds.length = n ∧ m ds = some o ∧
  ∀ v H' M' G, Step NoF M H M' H' → Mtr M' H' → Own K M' H' v o G → (∀ a, G a → M' a ∧ H a = none) → Q v H'
/-- the first argument is lent -/
def spR (K : PySem.W.Frag) (n : Nat) (m : O → List D → Option (O × O)) : Sp := fun vs H Q _ => ∃ M v0 ws F0 o ds r o', vs = v0 :: ws ∧ Mtr M H ∧ (∀ a, F0 a → M a) ∧ Own K M H v0 o F0 ∧ Reps K M H ws ds ∧ ds.length + 1 = n ∧ m o ds = some (r, o') ∧
  ∀ v H' M' F' G, Step F0 M H M' H' → Mtr M' H' → Own K M' H' v0 o' F' → (∀ a, F0 a → F' a) → (∀ a, F' a → F0 a ∨ H a = none) → (∀ a, F' a → M' a) → Own K M' H' v r G → (∀ a, F' a → G a → False) → (∀ a, G a → M' a ∧ H a = none) → Q v H'
def fnP (n N : Nat) (g : DS) : List D → Option O := fun ds => match g (ds.map (fun d => W.w false (.sh d)) ++ List.replicate (N - n) W.un) with
  | some (.rt o _) => some o
  | some (.nx _) => some (.sh .non)
  | _ => none
def fnR (n N : Nat) (g : DS) : O → List D → Option (O × O) := fun o ds => match g (W.w true o :: (ds.map (fun d => W.w false (.sh d)) ++ List.replicate (N - n) W.un)) with
  | some (.rt r ρ) => (match ρ[0]? with
    | some (W.w true o') => some (r, o')
    | _ => none)
  | some (.nx ρ) => (match ρ[0]? with
    | some (W.w true o') => some (.sh .non, o')
    | _ => none)
  | _ => none
section
variable {K : PySem.W.Frag} {B : V × (Addr → Prop)} {M M' : Addr → Prop} {F F' : Nat → Addr → Prop} {H H' : Hp} {σ σ' : L2.St} {ρ ρ' : List W}
theorem reps_slots {vs : List V} {ds : List D} {k : Nat} (r : Reps K M H vs ds) : ∀ (i : Nat) (b : Bool) (o : O), (ds.map (fun d => W.w false (.sh d)) ++ List.replicate k W.un)[i]? = some (.w b o) →
    b = false ∧ ∃ v, (vs.map some ++ List.replicate k (none : Option V))[i]? = some (some v) ∧ Own K M H v o NoF := fun i b o h => by
  by_cases hi : i < ds.length
  · rw [List.getElem?_append_left (by simpa using hi), List.getElem?_map] at h
    obtain ⟨d, h1, h2⟩ := Option.map_eq_some_iff.mp h
    cases h2
    obtain ⟨v, h3, h4⟩ := r.get h1
    refine ⟨rfl, v, ?_, .sh h4⟩
    rw [List.getElem?_append_left (by rw [List.length_map, r.length]; exact hi), List.getElem?_map, h3]
    rfl
  · rw [List.getElem?_append_right (by simpa using Nat.le_of_not_lt hi), List.getElem?_replicate] at h
    split at h <;> cases h
/-- the slots at a def's entry -/
theorem ER.entry {vs : List V} {ds : List D} {k : Nat} (m : Mtr M H) (r : Reps K M H vs ds) : ER K (.non, NoF) M (fun _ => NoF) H (vs.map some ++ List.replicate k none) (ds.map (fun d => W.w false (.sh d)) ++ List.replicate k W.un) where
  len := by simp [r.length]
  own := fun i b o h => by
    obtain ⟨e, v, h1, h2⟩ := reps_slots r i b o h
    exact ⟨v, h1, h2, fun z => by rw [e] at z; cases z⟩
  dis := fun _ _ _ z => z.elim
  sub := fun _ _ z => z.elim
  mtr := m
  f0 := fun _ z => z.elim
  b0 := fun _ z => z.elim
theorem ER.entryR {v0 : V} {o : O} {F0 : Addr → Prop} {vs : List V} {ds : List D} {k : Nat} (m : Mtr M H) (fm : ∀ a, F0 a → M a) (ow : Own K M H v0 o F0) (r : Reps K M H vs ds) :
    ER K (v0, F0) M (fun i a => i = 0 ∧ F0 a) H ((v0 :: vs).map some ++ List.replicate k none) (.w true o :: (ds.map (fun d => W.w false (.sh d)) ++ List.replicate k W.un)) where
  len := by simp [r.length]
  own := fun i b o' h => by
    cases i with
    | zero =>
      cases h
      exact ⟨v0, rfl, ow.mono fun a z => ⟨rfl, z⟩, fun _ => ⟨rfl, rfl⟩⟩
    | succ i =>
      obtain ⟨e, v, h1, h2⟩ := reps_slots r i b o' h
      exact ⟨v, h1, h2.mono fun _ z => z.elim, fun z => by rw [e] at z; cases z⟩
  dis := fun i j a z w => z.1.trans w.1.symm
  sub := fun i a z => fm a z.2
  mtr := m
  f0 := fun a z => ⟨rfl, z⟩
  b0 := fun a z => ⟨o, rfl⟩
/-- slot i, lent to a callee, comes back -/
theorem ER.upd (er : ER K B M F H σ ρ) {i : Nat} {b : Bool} {o o' : O} {v : V} {G : Addr → Prop} (h : ρ[i]? = some (.w b o)) (hv : σ[i]? = some (some v)) (s : Step (F i) M H M' H') (mt : Mtr M' H') (ow : Own K M' H' v o' G)
    (sup : ∀ a, F i a → G a) (gr : ∀ a, G a → F i a ∨ H a = none) (gm : ∀ a, G a → M' a) : ER K B M' (upF F i G) H' σ (ρ.set i (.w b o')) := by
  have tr : Tr M H M' H' := s.tr fun a z => er.sub i a z
  have hl := (List.getElem?_eq_some_iff.mp h).1
  have gd : ∀ j a, j ≠ i → F j a → G a → False := fun j a n z q => (gr a q).elim (fun q => n (er.dis j i a z q)) fun q => er.trk z q
  refine ⟨by rw [List.length_set]; exact er.len, fun j c o2 e => ?_, fun j k a h1 h2 => ?_, fun j a z => ?_, mt, fun a z => ?_, fun a z => ?_⟩
  · by_cases hj : j = i
    · subst hj
      rw [List.getElem?_set_self hl] at e
      cases e
      obtain ⟨v', h1, h2, h3⟩ := er.own j b o h
      have : v' = v := by rw [hv] at h1; cases h1; rfl
      subst this
      exact ⟨v', hv, ow.mono fun a z => .inl ⟨rfl, z⟩, h3⟩
    · rw [List.getElem?_set_ne (Ne.symm hj)] at e
      obtain ⟨u, h1, h2, h3⟩ := er.own j c o2 e
      refine ⟨u, h1, (h2.tr tr fun a z => s.eq (er.trk z) fun q => hj (er.dis j i a z q)).mono fun a z => .inr ⟨hj, z⟩, h3⟩
  · rcases h1 with ⟨e, h1⟩ | ⟨e, h1⟩ <;> rcases h2 with ⟨e', h2⟩ | ⟨e', h2⟩
    · rw [e, e']
    · exact (gd k a e' h2 h1).elim
    · exact (gd j a e h1 h2).elim
    · exact er.dis j k a h1 h2
  · rcases z with ⟨_, z⟩ | ⟨n, z⟩
    · exact gm a z
    · exact s.old a (er.sub j a z) fun q => n (er.dis j i a z q)
  · have := er.f0 a z
    by_cases hi : (0 : Nat) = i
    · exact .inl ⟨hi, sup a (by rw [← hi]; exact this)⟩
    · exact .inr ⟨hi, this⟩
  · obtain ⟨o2, e⟩ := er.b0 a z
    by_cases hi : i = 0
    · subst hi
      rw [h] at e
      cases e
      exact ⟨o', List.getElem?_set_self hl⟩
    · exact ⟨o2, by rw [List.getElem?_set_ne hi]; exact e⟩
end
/-! ### defs -/
section
variable {P : Program} {w : World} {K : PySem.W.Frag} {mg : Str → Option Value} {base : Heap} {x qual : Str} {st : Stmt} {f : Addr} {fd : FuncData} {N ps : List Str} {k : Nat}
theorem fn_P {g : DS} (F : Fun K x qual st f fd) (S : FnScope N ps (defScope st)) (hN : ps.length ≤ N.length)
    (hb : ∀ (cdv : Value) (A : Around) (outer : List Env) (s : Shared) (H : Hp) (E : XK), Room k (A.deeper (envOfC qual (defScope st) s.heap.objs.size f cdv)) → XSs (cxOf CX0 P w K mg base N qual (defScope st) f cdv A outer s H E).nox (defBody st) g) :
    FnOk P w K mg base CX0 (k + 1) f fd ps (spP K ps.length (fnP ps.length N.length g)) := by
  refine F.ok S (fun vs H Q E ⟨M, ds, o, _, r, hl, _⟩ => r.length.trans hl) fun cdv A outer s H vs Q E hr ⟨M, ds, o, m, r, hl, e, q⟩ => ⟨_, hb cdv A outer s H E hr, ?_⟩
  have er := ER.entry (k := N.length - ps.length) m r
  have hv : vs.length = ps.length := r.length.trans hl
  unfold fnP at e
  have st0 : L2.start N vs = vs.map some ++ List.replicate (N.length - ps.length) none := by unfold L2.start; rw [hv]
  rw [st0]
  split at e
  · rename_i o' ρ' e1
    cases e
    refine ⟨_, M, _, _, _, er, e1, fun v σ' H' M' F' G p ow dj gm => ?_⟩
    exact q v H' M' G (p.step.mono fun a z => z.elim fun _ z => z) p.er.mtr ow fun a z => ⟨(gm a z).1, (gm a z).2.elim (fun z => z.elim fun _ z => z.elim) id⟩
  · rename_i ρ' e1
    cases e
    refine ⟨_, M, _, _, _, er, e1, fun σ' H' M' F' p => ?_⟩
    exact q .non H' M' NoF (p.step.mono fun a z => z.elim fun _ z => z) p.er.mtr (.sh .non) fun _ z => z.elim
  · cases e
theorem fn_R {g : DS} (F : Fun K x qual st f fd) (S : FnScope N ps (defScope st)) (hN : ps.length ≤ N.length)
    (hb : ∀ (cdv : Value) (A : Around) (outer : List Env) (s : Shared) (H : Hp) (E : XK), Room k (A.deeper (envOfC qual (defScope st) s.heap.objs.size f cdv)) → XSs (cxOf CX0 P w K mg base N qual (defScope st) f cdv A outer s H E).nox (defBody st) g) :
    FnOk P w K mg base CX0 (k + 1) f fd ps (spR K ps.length (fnR ps.length N.length g)) := by
  refine F.ok S (fun vs H Q E ⟨M, v0, ws, F0, o, ds, r, o', ev, _, _, _, rp, hl, _⟩ => by rw [ev, List.length_cons, rp.length]; exact hl) fun cdv A outer s H vs Q E hr ⟨M, v0, ws, F0, o, ds, r, o', ev, m, fm, ow0, rp, hl, e, q⟩ => ⟨_, hb cdv A outer s H E hr, ?_⟩
  subst ev
  have er := ER.entryR (k := N.length - ps.length) m fm ow0 rp
  have hv : (v0 :: ws).length = ps.length := by rw [List.length_cons, rp.length]; exact hl
  unfold fnR at e
  have st0 : L2.start N (v0 :: ws) = (v0 :: ws).map some ++ List.replicate (N.length - ps.length) none := by unfold L2.start; rw [hv]
  rw [st0]
  have unF : ∀ a, Un (fun (i : Nat) a => i = 0 ∧ F0 a) a → F0 a := fun a z => z.elim fun _ z => z.2
  split at e
  · rename_i o2 ρ' e1
    split at e
    · rename_i o3 e2
      cases e
      refine ⟨_, M, _, _, _, er, e1, fun v σ' H' M' F' G p ow dj gm => ?_⟩
      obtain ⟨u, h1, h2, h3⟩ := p.er.own 0 true _ e2
      have eu : u = v0 := (h3 rfl).2
      rw [eu] at h2
      exact q v H' M' (F' 0) G (p.step.mono unF) p.er.mtr h2 (fun a z => p.er.f0 a z) (fun a z => (p.grow 0 a z).imp_left (unF a)) (fun a z => p.er.sub 0 a z) ow (fun a z => dj 0 a z)
        fun a z => ⟨(gm a z).1, (gm a z).2.elim (fun y => (dj 0 a (p.er.f0 a (unF a y)) z).elim) id⟩
    · cases e
  · rename_i ρ' e1
    split at e
    · rename_i o3 e2
      cases e
      refine ⟨_, M, _, _, _, er, e1, fun σ' H' M' F' p => ?_⟩
      obtain ⟨u, h1, h2, h3⟩ := p.er.own 0 true _ e2
      have eu : u = v0 := (h3 rfl).2
      rw [eu] at h2
      exact q .non H' M' (F' 0) NoF (p.step.mono unF) p.er.mtr h2 (fun a z => p.er.f0 a z) (fun a z => (p.grow 0 a z).imp_left (unF a)) (fun a z => p.er.sub 0 a z) (.sh .non) (fun _ _ z => z) fun _ z => z.elim
    · cases e
  · cases e
end
/-! ### calls -/
def callP (n : Nat) (m : List D → Option O) (l : LE) : OE := fun ρ => match l ρ with
  | some (ds, ρ1) => if ds.length = n then (m ds).map fun o => (o, ρ1) else none
  | none => none
def has (ρ : List W) (i : Nat) : Bool := match ρ[i]? with
  | some (W.w _ _) => true
  | _ => false
theorem has_some {ρ : List W} {i : Nat} (h : has ρ i = true) : ∃ b o, ρ[i]? = some (.w b o) := by
  unfold has at h
  split at h
  · exact ⟨_, _, by assumption⟩
  · cases h
def callR (n : Nat) (m : O → List D → Option (O × O)) (i : Nat) (l : LE) : OE := fun ρ => if has ρ i then (match l ρ with
  | some (ds, ρ1) => if ds.length + 1 = n then (match ρ1[i]? with
    | some (W.w b o) => (m o ds).map fun p => (p.1, ρ1.set i (.w b p.2))
    | _ => none) else none
  | none => none) else none
section
variable {K : PySem.W.Frag} {τ : Bool}
/-- behind the arguments: the callee's promise -/
theorem callP_at {B : V × (Addr → Prop)} {M M1 : Addr → Prop} {F F1 : Nat → Addr → Prop} {H H1 : Hp} {σ : L2.St} {ρ ρ1 : List W} {Q : VK} {E : XK} {n : Nat} {m : List D → Option O} {vs : List V} {ds : List D} {o : O} (er : ER K B M F H σ ρ) (p : Post τ K B M F H σ ρ M1 F1 H1 ρ1) (r : Reps K M1 H1 vs ds) (hl : ds.length = n) (e : m ds = some o)
    (k : ∀ v H' M' F' G, Post τ K B M F H σ ρ M' F' H' ρ1 → Own K M' H' v o G → (∀ i a, F' i a → G a → False) → (∀ a, G a → M' a ∧ H a = none) → Q v H') : spP K n m vs H1 Q E :=
  ⟨M1, ds, o, p.er.mtr, r, hl, e, fun v H' M' G s mt ow gm => by
    have pk := Post.trans er p (Post.keep false p.er s mt)
    rw [Bool.or_false] at pk
    exact k v H' M' F1 G pk ow (fun i a z q => p.er.trk z (gm a q).2) fun a z => ⟨(gm a z).1, p.step.fresh (gm a z).2⟩⟩
theorem callR_at {B : V × (Addr → Prop)} {M M1 : Addr → Prop} {F F1 : Nat → Addr → Prop} {H H1 : Hp} {σ : L2.St} {ρ ρ1 : List W} {Q : VK} {E : XK} {n i : Nat} {b : Bool} {m : O → List D → Option (O × O)} {v0 : V} {vs : List V} {ds : List D} {o r o' : O} (er : ER K B M F H σ ρ) (p : Post τ K B M F H σ ρ M1 F1 H1 ρ1) (rp : Reps K M1 H1 vs ds) (hl : ds.length + 1 = n) (hv : σ[i]? = some (some v0)) (h : ρ1[i]? = some (.w b o)) (e : m o ds = some (r, o'))
    (k : ∀ v H' M' F' G, Post true K B M F H σ ρ M' F' H' (ρ1.set i (.w b o')) → Own K M' H' v r G → (∀ i a, F' i a → G a → False) → (∀ a, G a → M' a ∧ H a = none) → Q v H') : spR K n m (v0 :: vs) H1 Q E := by
  obtain ⟨u, h1, h2, h3⟩ := p.er.own i b o h
  have eu : u = v0 := by rw [hv] at h1; cases h1; rfl
  rw [eu] at h2
  refine ⟨M1, v0, vs, F1 i, o, ds, r, o', rfl, p.er.mtr, fun a z => p.er.sub i a z, h2, rp, hl, e, fun v H' M' F' G s mt ow sup gr fm ow2 dj gm => ?_⟩
  have er2 := p.er.upd h hv s mt ow sup gr fm
  have p2 : Post true K B M1 F1 H1 σ ρ1 M' (upF F1 i F') H' (ρ1.set i (.w b o')) := ⟨s.mono fun a z => ⟨rfl, i, z⟩, er2, fun j a z => z.elim (fun q => (gr a q.2).imp_left fun z => by rw [q.1]; exact z) fun q => .inl q.2, fun z => nomatch z⟩
  have p3 := Post.trans er p p2
  rw [Bool.or_true] at p3
  refine k v H' M' _ G p3 ow2 (fun j a z q => ?_) fun a z => ⟨(gm a z).1, p.step.fresh (gm a z).2⟩
  rcases z with ⟨_, z⟩ | ⟨_, z⟩
  · exact dj a z q
  · exact p.er.trk z (gm a q).2
end
section
variable {X : Cx} {e o value : Expr} {es : List Expr} {τ : Bool} {pos p apos : Pos} {x m : Str} {k n i : Nat} {f C : Addr} {fd : FuncData} {ps : List Str} {l : LE} {mp : List D → Option O} {mr : O → List D → Option (O × O)}
theorem x_call (F : FnOk X.prog X.w X.K X.mg X.base CX0 k f fd ps (spP X.K n mp)) (hr : Room k X.A) (hg : Gl X x) (hm : X.mg x = some (.ref f)) (hk : PySem.W.keepIn X.K (.ref f) = true) (hb : Binds X.K fd ps []) (ha : XL X (e :: es) τ l)
    (hdb : (x == ("__debug__" : Str)) = false := by decide) (he : starEach (e :: es) X.env = (false, eval e X.env) :: starEach es X.env := by rfl) (hpl : (backTo pos (starEach es X.env)).any (·.1) = false := by rfl) :
    XO X (.Call (.Name x p) (e :: es) [] pos) τ (callP n mp l) := imE (pe_call F hr hg hm hk hb .nil pass0 ha hdb he hpl) fun σ H Q ⟨B, M, F', ρ, r, ρ', er, eg, kk⟩ => by
  unfold callP at eg
  split at eg
  · rename_i ds ρ1 e1
    split at eg
    · rename_i hl
      obtain ⟨o', e2, e3⟩ := Option.map_eq_some_iff.mp eg
      cases e3
      refine ⟨B, M, F', ρ, ds, _, er, e1, fun vs H1 M1 F1 p1 r1 => ?_⟩
      show spP X.K n mp (vs ++ []) H1 Q E0
      rw [List.append_nil]
      exact callP_at er p1 r1 hl e2 kk
    · cases eg
  · cases eg
theorem x_call0 (F : FnOk X.prog X.w X.K X.mg X.base CX0 k f fd ps (spP X.K 0 mp)) (hr : Room k X.A) (hg : Gl X x) (hm : X.mg x = some (.ref f)) (hk : PySem.W.keepIn X.K (.ref f) = true) (hb : Binds X.K fd ps [])
    (hdb : (x == ("__debug__" : Str)) = false := by decide) : XO X (.Call (.Name x p) [] [] pos) false (callP 0 mp nilL) := imE (pe_call0 F hr hg hm hk hb .nil pass0 hdb) fun σ H Q ⟨B, M, F', ρ, r, ρ', er, eg, kk⟩ => by
  unfold callP nilL at eg
  obtain ⟨o', e2, e3⟩ := Option.map_eq_some_iff.mp eg
  cases e3
  exact callP_at (E := E0) er (.refl false er) .nil rfl e2 kk
/-- the first argument is lent: an owned name -/
theorem x_callR {y : Str} {p' : Pos} (F : FnOk X.prog X.w X.K X.mg X.base CX0 k f fd ps (spR X.K n mr)) (hr : Room k X.A) (hg : Gl X x) (hm : X.mg x = some (.ref f)) (hk : PySem.W.keepIn X.K (.ref f) = true) (hb : Binds X.K fd ps []) (hv : PE X (.Name y p') (tVar i)) (ha : XL X es τ l)
    (hdb : (x == ("__debug__" : Str)) = false := by decide) (he : starEach (.Name y p' :: es) X.env = (false, eval (.Name y p') X.env) :: starEach es X.env := by rfl) (hpl : (backTo pos (starEach es X.env)).any (·.1) = false := by rfl) :
    XO X (.Call (.Name x p) (.Name y p' :: es) [] pos) true (callR n mr i l) := imE (pe_call F hr hg hm hk hb .nil pass0 (pa_cons hv ha he) hdb he hpl) fun σ H Q ⟨B, M, F', ρ, r, ρ', er, eg, kk⟩ => by
  unfold callR at eg
  split at eg
  · rename_i h0
    split at eg
    · rename_i ds ρ1 e1
      split at eg
      · rename_i hl
        split at eg
        · rename_i b o1 e2
          obtain ⟨⟨r1, o'⟩, e3, e4⟩ := Option.map_eq_some_iff.mp eg
          cases e4
          obtain ⟨b0, o0, h00⟩ := has_some h0
          obtain ⟨v0, hv0, _, _⟩ := er.own i b0 o0 h00
          refine ⟨v0, hv0, B, M, F', ρ, ds, ρ1, er, e1, fun vs H1 M1 F1 p1 r1 => ?_⟩
          show spR X.K n mr ((v0 :: vs) ++ []) H1 Q E0
          rw [List.append_nil]
          exact callR_at er p1 r1 hl hv0 e2 e3 kk
        · cases eg
      · cases eg
    · cases eg
  · cases eg
end
end Dl
/-! text DL8 -/
set_option Elab.async false
set_option linter.all false
set_option maxRecDepth 100000
set_option maxHeartbeats 1000000
/-! The data layer: methods, instances, attributes, properties. -/
namespace Dl
open PySem PySem.Spec PyProof.Rows L2

/-- the field f -/
def fget {α : Type} (f : Str) : List (Str × α) → Option α
  | [] => none
  | p :: r => if p.1 = f then some p.2 else fget f r
def fput {α : Type} (f : Str) (v : α) : List (Str × α) → List (Str × α)
  | [] => [(f, v)]
  | p :: r => if p.1 = f then (p.1, v) :: r else p :: fput f v r
theorem lookup_fget {α : Type} {f : Str} : ∀ {l : List (Str × α)}, l.lookup f = fget f l
  | [] => rfl
  | (g, x) :: r => by
    unfold fget
    by_cases h : g = f
    · rw [if_pos h, List.lookup_cons, show (f == g) = true from beq_iff_eq.mpr h.symm]
    · rw [if_neg h, List.lookup_cons, show (f == g) = false from beq_eq_false_iff_ne.mpr fun e => h e.symm]
      exact lookup_fget
theorem fget_ix {α β : Type} {f : Str} : ∀ {l : List (Str × α)} {l' : List (Str × β)} {x : α}, l'.map (·.1) = l.map (·.1) → fget f l = some x → ∃ (i : Nat) (y : β), (l.map (·.2))[i]? = some x ∧ (l'.map (·.2))[i]? = some y ∧ fget f l' = some y ∧
    (∀ z, (fput f z l').map (·.1) = l'.map (·.1) ∧ (fput f z l').map (·.2) = (l'.map (·.2)).set i z) ∧ ∀ z, (fput f z l).map (·.1) = l.map (·.1) ∧ (fput f z l).map (·.2) = (l.map (·.2)).set i z
  | [], [], _, _, h => by cases h
  | p :: r, [], _, k, _ => by cases k
  | [], q :: s, _, k, _ => by cases k
  | p :: r, q :: s, x, k, h => by
    have k1 : q.1 = p.1 := (List.cons.inj k).1
    have k2 : s.map (·.1) = r.map (·.1) := (List.cons.inj k).2
    unfold fget at h
    by_cases e : p.1 = f
    · rw [if_pos e] at h
      cases h
      refine ⟨0, q.2, rfl, rfl, by unfold fget; rw [if_pos (k1.trans e)], fun z => ?_, fun z => ?_⟩
      · unfold fput; rw [if_pos (k1.trans e)]; exact ⟨rfl, rfl⟩
      · unfold fput; rw [if_pos e]; exact ⟨rfl, rfl⟩
    · rw [if_neg e] at h
      obtain ⟨i, y, h1, h2, h3, h4, h5⟩ := fget_ix k2 h
      refine ⟨i + 1, y, h1, h2, by unfold fget; rw [if_neg (fun z => e (k1.symm.trans z))]; exact h3, fun z => ?_, fun z => ?_⟩
      · unfold fput
        rw [if_neg (fun z => e (k1.symm.trans z))]
        exact ⟨congrArg (q.1 :: ·) (h4 z).1, congrArg (q.2 :: ·) (h4 z).2⟩
      · unfold fput
        rw [if_neg e]
        exact ⟨congrArg (p.1 :: ·) (h5 z).1, congrArg (p.2 :: ·) (h5 z).2⟩
theorem fget_none {α β : Type} {f : Str} : ∀ {l : List (Str × α)} {l' : List (Str × β)}, l'.map (·.1) = l.map (·.1) → fget f l = none → fget f l' = none ∧ (∀ z, fput f z l' = l' ++ [(f, z)]) ∧ ∀ z, fput f z l = l ++ [(f, z)]
  | [], [], _, _ => ⟨rfl, fun _ => rfl, fun _ => rfl⟩
  | p :: r, [], k, _ => by cases k
  | [], q :: s, k, _ => by cases k
  | p :: r, q :: s, k, h => by
    have k1 : q.1 = p.1 := (List.cons.inj k).1
    have k2 : s.map (·.1) = r.map (·.1) := (List.cons.inj k).2
    unfold fget at h
    by_cases e : p.1 = f
    · rw [if_pos e] at h; cases h
    · rw [if_neg e] at h
      obtain ⟨h1, h2, h3⟩ := fget_none k2 h
      have e' : ¬ q.1 = f := fun z => e (k1.symm.trans z)
      refine ⟨by unfold fget; rw [if_neg e']; exact h1, fun z => ?_, fun z => ?_⟩
      · unfold fput; rw [if_neg e', h2 z]; rfl
      · unfold fput; rw [if_neg e, h3 z]; rfl
theorem putF_fput {f : Str} {v : V} : ∀ l : List (Str × V), putF f v l = fput f v l
  | [] => rfl
  | (g, x) :: r => by
    show (if g = f then (g, v) :: r else (g, x) :: putF f v r) = if g = f then (g, v) :: r else (g, x) :: fput f v r
    rw [putF_fput r]
section
variable {K : PySem.W.Frag} {M M' : Addr → Prop} {H H' : Hp}
theorem Owns.length : ∀ {vs : List V} {os : List O} {F : Addr → Prop}, Owns K M H vs os F → vs.length = os.length
  | _, _, _, .nil => rfl
  | _, _, _, .cons _ b _ _ _ => congrArg Nat.succ (Owns.length b)
theorem Owns.mono : ∀ {vs : List V} {os : List O} {F F' : Addr → Prop}, (∀ a, F a → F' a) → Owns K M H vs os F → Owns K M H vs os F'
  | _, _, _, _, _, .nil => .nil
  | _, _, _, _, s, .cons a b d f g => .cons a b d (fun c z => s c (f c z)) fun c z => s c (g c z)
/-- one of them -/
theorem Owns.get : ∀ {vs : List V} {os : List O} {F : Addr → Prop} {i : Nat} {o : O}, Owns K M H vs os F → os[i]? = some o → ∃ v G, vs[i]? = some v ∧ Own K M H v o G ∧ (∀ a, G a → F a) ∧
    ∀ (M' : Addr → Prop) (H' : Hp) (o' : O) (v' : V) (G' : Addr → Prop), Tr M H M' H' → (∀ a, F a → ¬ G a → H' a = H a) → Own K M' H' v' o' G' → (∀ a, G' a → F a → G a) → Owns K M' H' (vs.set i v') (os.set i o') (fun a => F a ∨ G' a)
  | _, _, _, 0, _, .cons (v := v) (o := o) (G := G) (G' := G2) a b d f g, h => by
    cases h
    refine ⟨v, G, rfl, a, f, fun M' H' o' v' G' t k ow n => ?_⟩
    exact .cons ow (b.tr t fun c z => k c (g c z) fun q => d c q z) (fun c z q => d c (n c z (g c q)) q) (fun c z => .inr z) fun c z => .inl (g c z)
  | _, _, _, i + 1, _, .cons (v := v) (o := o) (G := G) (G' := G2) a b d f g, h => by
    obtain ⟨u, G3, h1, h2, h3, h4⟩ := Owns.get (i := i) b (by simpa using h)
    refine ⟨u, G3, by simpa using h1, h2, fun c z => g c (h3 c z), fun M' H' o' v' G' t k ow n => ?_⟩
    have := h4 M' H' o' v' G' t (fun c z q => k c (g c z) q) ow fun c z q => n c z (g c q)
    refine .cons (a.tr t fun c z => k c (f c z) fun q => d c z (h3 c q)) this (fun c z q => ?_) (fun c z => .inl (f c z)) fun c z => z.imp_left (g c)
    rcases q with q | q
    · exact d c z q
    · exact d c z (h3 c (n c q (f c z)))
theorem Owns.append1 : ∀ {vs : List V} {os : List O} {F G : Addr → Prop} {v : V} {o : O}, Owns K M H vs os F → Own K M H v o G → (∀ a, F a → G a → False) → Owns K M H (vs ++ [v]) (os ++ [o]) (fun a => F a ∨ G a)
  | _, _, _, _, _, _, .nil, ow, _ => .cons (G' := NoF) ow .nil (fun _ _ z => z) (fun _ z => .inr z) fun _ z => z.elim
  | _, _, F, G, _, _, .cons (G := G1) (G' := G2) a b d f g, ow, n => by
    refine .cons (G := G1) a (Owns.append1 b ow fun c z q => n c (g c z) q) (fun c z q => ?_) (fun c z => .inl (f c z)) fun c z => z.imp_left (g c)
    rcases q with q | q
    · exact d c z q
    · exact n c (f c z) q
theorem Reps.fget {f : Str} {fvs : List (Str × V)} {l : List (Str × D)} {d : D} (k : fvs.map (·.1) = l.map (·.1)) (r : Reps K M H (fvs.map (·.2)) (l.map (·.2))) (h : fget f l = some d) : ∃ v, fvs.lookup f = some v ∧ Rep K M H v d := by
  obtain ⟨i, y, h1, h2, h3, _⟩ := fget_ix k h
  obtain ⟨v, h4, h5⟩ := r.get h1
  rw [h2] at h4
  cases h4
  exact ⟨y, by rw [lookup_fget]; exact h3, h5⟩
end
/-! ### attributes -/
def fldE (c f : Str) (g : DE) : DE := fun ρ => match g ρ with
  | some (.obj c' l, ρ1) => if c' = c then (fget f l).map fun d => (d, ρ1) else none
  | _ => none
/-- an attribute of an owned name's instance: data -/
def fldS (i : Nat) (c f : Str) : DE := fun ρ => match ρ[i]? with
  | some (W.w _ (.ob c' l)) => if c' = c then (match fget f l with
    | some (.sh d) => some (d, ρ)
    | _ => none) else none
  | some (W.w _ (.sh (.obj c' l))) => if c' = c then (fget f l).map fun d => (d, ρ) else none
  | _ => none
section
variable {X : Cx} {e o value : Expr} {es : List Expr} {τ τ' : Bool} {pos p apos pos' : Pos} {x c f : Str} {i : Nat} {l : LE}
theorem x_fld {g : DE} (h : XD X e τ g) (hc : Cls X.K (He.ga X.K c)) (hn : NoAttr X.K (He.ga X.K c) f) (hb : attributeBase e f X.env (eval e X.env) = eval e X.env := by rfl) : XD X (.Attribute e f pos) τ (fldE c f g) := imE (pe_fld h hb) fun σ H Q ⟨B, M, F, ρ, d, ρ', er, eg, k⟩ => by
  unfold fldE at eg
  split at eg
  · rename_i c' l ρ1 e1
    split at eg
    · rename_i hcc
      subst hcc
      obtain ⟨d', e2, e3⟩ := Option.map_eq_some_iff.mp eg
      cases e3
      refine ⟨B, M, F, ρ, _, _, er, e1, fun v H' M' F' p r => ?_⟩
      cases r with
      | obj m ha hk rs =>
        obtain ⟨u, h1, h2⟩ := Reps.fget hk rs e2
        exact ⟨_, _, _, _, u, rfl, ha, hc, hn, h1, k u H' M' F' p h2⟩
    · cases eg
  · cases eg
theorem x_fldS {g : DE} (h : PE X (.Name x p) (tVar i)) (hc : Cls X.K (He.ga X.K c)) (hn : NoAttr X.K (He.ga X.K c) f) (hb : attributeBase (.Name x p) f X.env (eval (.Name x p) X.env) = eval (.Name x p) X.env := by rfl) : XD X (.Attribute (.Name x p) f pos) false (fldS i c f) := imE (pe_fld h hb) fun σ H Q ⟨B, M, F, ρ, d, ρ', er, eg, k⟩ => by
  unfold fldS at eg
  split at eg
  · rename_i b c' l e1
    split at eg
    · rename_i hcc
      subst hcc
      split at eg
      · rename_i d' e2
        cases eg
        obtain ⟨v, h1, h2, _⟩ := er.own i b _ e1
        cases h2 with
        | ob fa ha hk rs s n =>
          obtain ⟨j, y, g1, g2, g3, _⟩ := fget_ix hk e2
          obtain ⟨u, G, q1, q2, _⟩ := rs.get g1
          rw [g2] at q1
          cases q1
          cases q2 with
          | sh r => exact ⟨_, h1, _, _, _, _, y, rfl, ha, hc, hn, by rw [lookup_fget]; exact g3, k y H M F (.refl _ er) r⟩
      · cases eg
    · cases eg
  · rename_i b c' l e1
    split at eg
    · rename_i hcc
      subst hcc
      obtain ⟨d', e2, e3⟩ := Option.map_eq_some_iff.mp eg
      cases e3
      obtain ⟨v, h1, h2, _⟩ := er.own i b _ e1
      cases h2 with
      | sh r =>
        cases r with
        | obj m ha hk rs =>
          obtain ⟨u, q1, q2⟩ := Reps.fget hk rs e2
          exact ⟨_, h1, _, _, _, _, u, rfl, ha, hc, hn, q1, k u H M F (.refl _ er) q2⟩
    · cases eg
  · cases eg
/-- name.f = value, the name's instance owned; what is stored keeps what it owns -/
def setF (i : Nat) (c f : Str) (g : OE) : DS := fun ρ => if has ρ i then (match g ρ with
  | some (o, ρ1) => (match ρ1[i]? with
    | some (W.w b (.ob c' l)) => if c' = c ∧ l.length < 100 then some (.nx (ρ1.set i (.w b (.ob c' (fput f o l))))) else none
    | _ => none)
  | none => none) else none
theorem s_fld {g : OE} (h : PE X (.Name x p) (tVar i)) (hv : XO X value τ g) (hc : Cls X.K (He.ga X.K c)) (hn : NoAttr X.K (He.ga X.K c) f) (hs : swapsWith value (some (.Attribute (.Name x p) f pos')) pos.line X.env = pure false := by rfl) :
    XS X (.Assign [.Attribute (.Name x p) f pos'] value pos) (setF i c f g) := imS (ps_fld h hv hs) fun E σ H ⟨B, M, F, ρ, r, er, eg, k⟩ => by
  unfold setF at eg
  split at eg
  · rename_i h0
    split at eg
    · rename_i o ρ1 e1
      split at eg
      · rename_i b c' l e2
        split at eg
        · rename_i hcc
          obtain ⟨hcc, hlen⟩ := hcc
          subst hcc
          cases eg
          refine ⟨B, M, F, ρ, o, ρ1, er, e1, fun y H1 M1 F1 G p1 ow dj gm => ?_⟩
          obtain ⟨v, q1, q2, _⟩ := p1.er.own i b _ e2
          refine ⟨v, q1, ?_⟩
          cases q2 with
          | @ob a dx _ fvs _ _ G0 fa ha hk rs s n =>
            have hlv : fvs.length = l.length := by have := congrArg List.length hk; simpa using this
            refine ⟨a, He.ga X.K c', dx, fvs, rfl, ha, hc, hn, by omega, ?_⟩
            have ga : ¬ G a := fun z => dj i a fa z
            show E.nx σ (upd H1 a (.ins (He.ga X.K c') dx (putF f y fvs)))
            have hat : upd H1 a (.ins (He.ga X.K c') dx (putF f y fvs)) a = some (.ins (He.ga X.K c') dx (putF f y fvs)) := upd_same
            have hne : ∀ b', b' ≠ a → upd H1 a (.ins (He.ga X.K c') dx (putF f y fvs)) b' = H1 b' := fun b' z => upd_ne z
            generalize upd H1 a (.ins (He.ga X.K c') dx (putF f y fvs)) = HH at hat hne ⊢
            have st : Step (F1 i) M1 H1 M1 HH := by
              refine ⟨fun b' o' e' n' => ?_, fun b' t => ?_, fun _ m _ => m, fun _ m => .inl m, fun b' xs e' => by rw [hne b' fun z => by rw [z, ha] at e'; cases e']; exact e'⟩
              · rw [hne b' fun z => n' (by rw [z]; exact fa)]; exact e'
              · by_cases q : b' = a
                · rw [q, hat]; exact fun z => nomatch z
                · rw [hne b' q]; exact t
            have tr : Tr M1 H1 M1 HH := st.tr fun b' z => p1.er.sub i b' z
            have owt : Own X.K M1 HH y o G := ow.tr tr fun b' z => hne b' fun q => ga (by rw [← q]; exact z)
            have owns : Own X.K M1 HH (.ref a) (.ob c' (fput f o l)) (fun b' => F1 i b' ∨ G b') := by
              cases hg : fget f l with
              | none =>
                obtain ⟨k1, k2, k3⟩ := fget_none hk hg
                refine .ob (G := fun b' => G0 b' ∨ G b') (.inl fa) hat ?_ ?_ (fun b' z => z.imp_left (s b')) fun z => z.elim n ga
                · rw [putF_fput, k2, k3, List.map_append, List.map_append, hk]; rfl
                · rw [putF_fput, k2, k3, List.map_append, List.map_append]
                  exact Owns.append1 (rs.tr tr fun b' z => hne b' fun q => n (by rw [← q]; exact z)) owt fun b' z q => dj i b' (s b' z) q
              | some ov =>
                obtain ⟨j, y0, g1, g2, g3, g4, g5⟩ := fget_ix hk hg
                obtain ⟨u, G3, r1, r2, r3, r4⟩ := rs.get g1
                refine .ob (G := fun b' => G0 b' ∨ G b') (.inl fa) hat ?_ ?_ (fun b' z => z.imp_left (s b')) fun z => z.elim n ga
                · rw [putF_fput, (g4 y).1, (g5 o).1, hk]
                · rw [putF_fput, (g4 y).2, (g5 o).2]
                  exact r4 _ _ o y G tr (fun b' z _ => hne b' fun q => n (by rw [← q]; exact z)) owt fun b' z q => (dj i b' (s b' q) z).elim
            have mt : Mtr M1 HH := fun b' z => st.trk b' (p1.er.mtr b' z)
            -- the new object's own addresses are the slot's from now on
            have er2 : ER X.K B M1 (upF F1 i fun b' => F1 i b' ∨ G b') HH σ (ρ1.set i (.w b (.ob c' (fput f o l)))) := by
              have hl := (List.getElem?_eq_some_iff.mp e2).1
              refine ⟨by rw [List.length_set]; exact p1.er.len, fun j b2 o2 e' => ?_, fun j j' a' h1 h2 => ?_, fun j a' z => ?_, mt, fun a' z => ?_, fun a' z => ?_⟩
              · by_cases hj : j = i
                · subst hj
                  rw [List.getElem?_set_self hl] at e'
                  cases e'
                  obtain ⟨v', h1, h2, h3⟩ := p1.er.own j b _ e2
                  have : v' = .ref a := by rw [q1] at h1; cases h1; rfl
                  rw [this] at h3
                  exact ⟨.ref a, q1, owns.mono fun a z => .inl ⟨rfl, z⟩, h3⟩
                · rw [List.getElem?_set_ne (Ne.symm hj)] at e'
                  obtain ⟨u, h1, h2, h3⟩ := p1.er.own j b2 o2 e'
                  exact ⟨u, h1, (h2.tr tr fun a' z => st.eq (p1.er.trk z) fun q => hj (p1.er.dis j i a' z q)).mono fun a z => .inr ⟨hj, z⟩, h3⟩
              · rcases h1 with ⟨e', h1⟩ | ⟨e', h1⟩ <;> rcases h2 with ⟨e'', h2⟩ | ⟨e'', h2⟩
                · rw [e', e'']
                · exact h1.elim (fun h1 => p1.er.dis j j' a' (by rw [e']; exact h1) h2) fun h1 => (dj j' a' h2 h1).elim
                · exact h2.elim (fun h2 => p1.er.dis j j' a' h1 (by rw [e'']; exact h2)) fun h2 => (dj j a' h1 h2).elim
                · exact p1.er.dis j j' a' h1 h2
              · rcases z with ⟨_, z⟩ | ⟨_, z⟩
                · exact z.elim (p1.er.sub i a') fun z => (gm a' z).1
                · exact p1.er.sub j a' z
              · have := p1.er.f0 a' z
                by_cases hi : (0 : Nat) = i
                · exact .inl ⟨hi, .inl (by rw [← hi]; exact this)⟩
                · exact .inr ⟨hi, this⟩
              · obtain ⟨o2, e'⟩ := p1.er.b0 a' z
                by_cases hi : i = 0
                · subst hi
                  rw [e2] at e'
                  cases e'
                  exact ⟨_, List.getElem?_set_self hl⟩
                · exact ⟨o2, by rw [List.getElem?_set_ne hi]; exact e'⟩
            refine k σ _ M1 _ ⟨p1.toS.step.trans (st.mono fun a' z => z) (fun a' z => p1.toS.grow i a' z) er.mtr, er2, fun j a' z => ?_⟩
            rcases z with ⟨_, z⟩ | ⟨_, z⟩
            · exact z.elim (fun z => p1.toS.grow i a' z) fun z => .inr (gm a' z).2
            · exact p1.toS.grow j a' z
        · cases eg
      · cases eg
    · cases eg
  · cases eg
end
end Dl
/-! text DL9 -/
set_option Elab.async false
set_option linter.all false
set_option maxRecDepth 100000
set_option maxHeartbeats 1000000
/-! The data layer: methods, instances made, properties. -/
namespace Dl
open PySem PySem.Spec PyProof.Rows L2

/-- o.m(..), o shared, of the class c -/
def methP (c m : Str) (n : Nat) (mp : List D → Option O) (g : DE) (l : LE) : OE := fun ρ => match g ρ with
  | some (.obj c' fs, ρ1) => if c' = c ∧ fget m fs = none then (match l ρ1 with
    | some (ds, ρ2) => if ds.length + 1 = n then (mp (.obj c' fs :: ds)).map fun o => (o, ρ2) else none
    | none => none) else none
  | _ => none
/-- name.m(..), the name's instance lent -/
def methR (c m : Str) (n : Nat) (mr : O → List D → Option (O × O)) (i : Nat) (l : LE) : OE := fun ρ => match ρ[i]? with
  | some (W.w _ (.ob c0 fs0)) => if c0 = c ∧ fget m fs0 = none then (match l ρ with
    | some (ds, ρ1) => if ds.length + 1 = n then (match ρ1[i]? with
      | some (W.w b o) => (mr o ds).map fun p => (p.1, ρ1.set i (.w b p.2))
      | _ => none) else none
    | none => none) else none
  | _ => none
/-- a new instance -/
def makeE (c : Str) (n : Nat) (mr : O → List D → Option (O × O)) (l : LE) : OE := fun ρ => match l ρ with
  | some (ds, ρ1) => if ds.length + 1 = n then (match mr (.ob c []) ds with
    | some (.sh .non, o) => some (o, ρ1)
    | _ => none) else none
  | none => none
/-- o.f, a property -/
def propE (c : Str) (mp : List D → Option O) (g : DE) : OE := fun ρ => match g ρ with
  | some (.obj c' fs, ρ1) => if c' = c then (mp [.obj c' fs]).map fun o => (o, ρ1) else none
  | _ => none
section
variable {X : Cx} {e o value : Expr} {es : List Expr} {τ τ' : Bool} {pos p apos pos' : Pos} {x c m f : Str} {i k n : Nat} {fa fm : Addr} {fd : FuncData} {ps : List Str} {l : LE} {g : DE} {mp : List D → Option O} {mr : O → List D → Option (O × O)}
theorem key_none {fvs : List (Str × V)} {α : Type} {l : List (Str × α)} (k : fvs.map (·.1) = l.map (·.1)) (h : fget m l = none) : fvs.lookup m = none := by
  rw [lookup_fget]
  exact (fget_none k h).1
theorem tD_methP {K : PySem.W.Frag} {E : XK} (σ : L2.St) (H : Hp) (Q : VK) (w : tO K (τ || τ') (methP c m n mp g l) σ H Q) : tMeth (He.ga K c) m (spP K n mp) [] E (tD K τ g) (tL K τ' l) σ H Q := by
  obtain ⟨B, M, F, ρ, r, ρ', er, eg, kk⟩ := w
  unfold methP at eg
  split at eg
  · rename_i c' fs ρ1 e1
    split at eg
    · rename_i hc
      obtain ⟨hc, hm⟩ := hc
      subst hc
      split at eg
      · rename_i ds ρ2 e2
        split at eg
        · rename_i hl
          obtain ⟨o', e3, e4⟩ := Option.map_eq_some_iff.mp eg
          cases e4
          refine ⟨B, M, F, ρ, _, ρ1, er, e1, fun v H1 M1 F1 p1 r1 => ?_⟩
          cases id r1 with
          | obj ma ha hk rs =>
            refine ⟨_, _, _, rfl, ha, key_none hk hm, B, M1, F1, ρ1, ds, _, p1.er, e2, fun vs H2 M2 F2 p2 r2 => ?_⟩
            show spP K n mp (_ :: (vs ++ [])) H2 Q E
            rw [List.append_nil]
            exact callP_at er (p1.trans er p2) (.cons (r1.tr (p2.tr p1.er)) r2) (by rw [List.length_cons]; exact hl) e3 kk
        · cases eg
      · cases eg
    · cases eg
  · cases eg
theorem cvMethP {ex : Expr} {E : XK} (h : PE X ex (tMeth (He.ga X.K c) m (spP X.K n mp) [] E (tD X.K τ g) (tL X.K τ' l))) : XO X ex (τ || τ') (methP c m n mp g l) := imE h fun σ H Q w => tD_methP σ H Q w
theorem nilA {K : PySem.W.Frag} (σ : L2.St) (H : Hp) (Q : List V → Hp → Prop) (w : tL K false nilL σ H Q) : tNil σ H Q := by
  obtain ⟨B, M, F, ρ, d, ρ', er, eg, k⟩ := w
  cases eg
  exact k [] H M F (.refl _ er) .nil
theorem tD_mono {K : PySem.W.Frag} {σ : L2.St} {H : Hp} {Q Q' : VK} (w : tD K τ g σ H Q) (q : ∀ v H1, Q v H1 → Q' v H1) : tD K τ g σ H Q' := by
  obtain ⟨B, M, F, ρ, d, ρ', er, eg, k⟩ := w
  exact ⟨B, M, F, ρ, d, ρ', er, eg, fun v H' M' F' p r => q v H' (k v H' M' F' p r)⟩
theorem cvMethP0 {ex : Expr} {E : XK} (h : PE X ex (tMeth (He.ga X.K c) m (spP X.K n mp) [] E (tD X.K τ g) tNil)) : XO X ex (τ || false) (methP c m n mp g nilL) := imE h fun σ H Q w => by
  have w2 := tD_methP (E := E) σ H Q w
  refine tD_mono w2 fun v H1 z => ?_
  obtain ⟨a, dx, fs, h1, h2, h3, h4⟩ := z
  exact ⟨a, dx, fs, h1, h2, h3, nilA σ H1 _ h4⟩
theorem tL_mono {K : PySem.W.Frag} {σ : L2.St} {H : Hp} {Q Q' : List V → Hp → Prop} (w : tL K τ l σ H Q) (q : ∀ v H1, Q v H1 → Q' v H1) : tL K τ l σ H Q' := by
  obtain ⟨B, M, F, ρ, d, ρ', er, eg, k⟩ := w
  exact ⟨B, M, F, ρ, d, ρ', er, eg, fun v H' M' F' p r => q v H' (k v H' M' F' p r)⟩
theorem tD_methR {K : PySem.W.Frag} {E : XK} (σ : L2.St) (H : Hp) (Q : VK) (w : tO K true (methR c m n mr i l) σ H Q) : tMeth (He.ga K c) m (spR K n mr) [] E (tVar i) (tL K τ' l) σ H Q := by
  obtain ⟨B, M, F, ρ, r, ρ', er, eg, kk⟩ := w
  unfold methR at eg
  split at eg
  · rename_i b0 c' fs e1
    split at eg
    · rename_i hc
      obtain ⟨hc, hm⟩ := hc
      subst hc
      split at eg
      · rename_i ds ρ1 e2
        split at eg
        · rename_i hl
          split at eg
          · rename_i b o1 e5
            obtain ⟨⟨r1, o'⟩, e3, e4⟩ := Option.map_eq_some_iff.mp eg
            cases e4
            obtain ⟨v0, hv0, ow, _⟩ := er.own i b0 _ e1
            refine ⟨v0, hv0, ?_⟩
            cases ow with
            | ob fa ha hk rs s nn =>
              refine ⟨_, _, _, rfl, ha, key_none hk hm, B, M, F, ρ, ds, ρ1, er, e2, fun vs H2 M2 F2 p2 r2 => ?_⟩
              show spR K n mr (_ :: (vs ++ [])) H2 Q E
              rw [List.append_nil]
              exact callR_at er p2 r2 hl hv0 e5 e3 kk
          · cases eg
        · cases eg
      · cases eg
    · cases eg
  · cases eg
theorem cvMethR {ex : Expr} {E : XK} (h : PE X ex (tMeth (He.ga X.K c) m (spR X.K n mr) [] E (tVar i) (tL X.K τ' l))) : XO X ex true (methR c m n mr i l) := imE h fun σ H Q w => tD_methR σ H Q w
theorem cvMethR0 {ex : Expr} {E : XK} (h : PE X ex (tMeth (He.ga X.K c) m (spR X.K n mr) [] E (tVar i) tNil)) : XO X ex true (methR c m n mr i nilL) := imE h fun σ H Q w => by
  obtain ⟨v, h1, a, dx, fs, h2, h3, h4, h5⟩ := tD_methR (τ' := false) (E := E) σ H Q w
  exact ⟨v, h1, a, dx, fs, h2, h3, h4, nilA σ H _ h5⟩
/-! ### C(..) -/
theorem tD_make {K : PySem.W.Frag} {E : XK} (σ : L2.St) (H : Hp) (Q : VK) (w : tO K τ (makeE c n mr l) σ H Q) : tMake (He.ga K c) (spR K n mr) [] E (tL K τ l) σ H Q := by
  obtain ⟨B, M, F, ρ, r, ρ', er, eg, kk⟩ := w
  unfold makeE at eg
  split at eg
  · rename_i ds ρ1 e1
    split at eg
    · rename_i hl
      split at eg
      · rename_i o' e2
        cases eg
        refine ⟨B, M, F, ρ, ds, _, er, e1, fun vs H1 M1 F1 p1 r1 x dx nx ndx ne => ?_⟩
        show spR K n mr (.ref x :: (vs ++ [])) _ _ E
        rw [List.append_nil]
        have s1 : Step NoF M1 H1 M1 (upd H1 dx (.own x)) := .laid ndx
        have nx1 : upd H1 dx (.own x) x = none := by rw [upd_ne ne.symm]; exact nx
        have s2 : Step NoF M1 (upd H1 dx (.own x)) (fun a => M1 a ∨ a = x) (upd (upd H1 dx (.own x)) x (.ins (He.ga K c) dx [])) := .laidM nx1
        have s3 := s1.trans s2 (fun _ z => z.elim) p1.er.mtr
        have mt : Mtr (fun a => M1 a ∨ a = x) (upd (upd H1 dx (.own x)) x (.ins (He.ga K c) dx [])) := fun a z => z.elim (fun q => s3.trk a (p1.er.mtr a q)) fun q => by rw [q, upd_same]; exact fun z => nomatch z
        refine ⟨_, .ref x, vs, (fun a => a = x), .ob c [], ds, _, _, rfl, mt, fun a z => .inr z, .ob (G := NoF) (fvs := []) rfl upd_same rfl .nil (fun _ z => z.elim) (fun z => z), r1.tr (s3.tr fun _ z => z.elim), hl, e2, ?_⟩
        intro v H' M' F' G s mt' ow sup gr fm ow2 dj gm
        have hv : v = .non := by cases ow2 with | sh r => cases r; rfl
        refine ⟨hv, ?_⟩
        -- against the start: x is new
        have s4 : Step NoF M1 H1 M' H' := by
          refine ⟨fun a u e n' => s.kept a u (s3.kept a u e id) fun z => ?_, fun a t => s.trk a (s3.trk a t), fun a m n' => s.old a (.inl m) fun z => ?_, fun a m => ?_, fun a xs h => s.tup a xs (s3.tup a xs h)⟩
          · rw [z, nx] at e; cases e
          · exact p1.er.mtr a m (by rw [z]; exact nx)
          · rcases s.new a m with z | z
            · exact z.imp_right fun q => by rw [q]; exact nx
            · exact .inr (s3.fresh z)
        have pk := Post.trans er p1 (Post.keep false p1.er s4 mt')
        rw [Bool.or_false] at pk
        refine kk _ H' M' F1 F' pk ow (fun i a z q => ?_) fun a z => ⟨fm a z, ?_⟩
        · rcases gr a q with q | q
          · exact p1.er.trk z (by rw [q]; exact nx)
          · exact p1.er.trk z (s3.fresh q)
        · rcases gr a z with q | q
          · rw [q]; exact p1.step.fresh nx
          · exact p1.step.fresh (s3.fresh q)
      · cases eg
    · cases eg
  · cases eg
theorem cvMake {ex : Expr} {E : XK} (h : PE X ex (tMake (He.ga X.K c) (spR X.K n mr) [] E (tL X.K τ l))) : XO X ex τ (makeE c n mr l) := imE h fun σ H Q w => tD_make σ H Q w
theorem cvMake0 {ex : Expr} {E : XK} (h : PE X ex (tMake (He.ga X.K c) (spR X.K n mr) [] E tNil)) : XO X ex false (makeE c n mr nilL) := imE h fun σ H Q w => nilA σ H _ (tD_make (τ := false) (E := E) σ H Q w)
/-! ### properties -/
theorem cvProp {ex : Expr} {E : XK} (h : PE X ex (tProp (He.ga X.K c) (spP X.K 1 mp) [] E (tD X.K τ g))) : XO X ex τ (propE c mp g) := imE h fun σ H Q w => by
  obtain ⟨B, M, F, ρ, r, ρ', er, eg, kk⟩ := w
  unfold propE at eg
  split at eg
  · rename_i c' fs ρ1 e1
    split at eg
    · rename_i hc
      subst hc
      obtain ⟨o', e3, e4⟩ := Option.map_eq_some_iff.mp eg
      cases e4
      refine ⟨B, M, F, ρ, _, _, er, e1, fun v H1 M1 F1 p1 r1 => ?_⟩
      cases id r1 with
      | obj ma ha hk rs => exact ⟨_, _, _, rfl, ha, callP_at er p1 (.cons r1 .nil) rfl e3 kk⟩
    · cases eg
  · cases eg
end
end Dl
/-! text DL10 -/
set_option Elab.async false
set_option linter.all false
set_option maxRecDepth 100000
set_option maxHeartbeats 1000000
/-! The data layer: operators on data. -/
namespace Dl
open PySem PySem.Spec PyProof.Rows L2

def iiD (f : Int → Int → D) : D → D → Option D
  | .int i, .int j => some (f i j)
  | _, _ => none
/-- two ints under a condition -/
def iicD (c : Int → Int → Bool) (f : Int → Int → D) : D → D → Option D
  | .int i, .int j => if c i j then some (f i j) else none
  | _, _ => none
def addD : D → D → Option D
  | .int i, .int j => some (.int (i + j))
  | .str a, .str b => if small (a.length + b.length) then some (.str (a ++ b)) else none
  | .lst a, .lst b => if small (a.length + b.length) then some (.lst (a ++ b)) else none
  | .tup a, .tup b => if small (a.length + b.length) then some (.tup (a ++ b)) else none
  | _, _ => none
def isNoneD (neg : Bool) : D → Option D
  | .non => some (.bl (!neg))
  | _ => some (.bl neg)
section
variable {K : PySem.W.Frag}
theorem newTup {M : Addr → Prop} {H : Hp} {p : Addr} {vs : List V} {ds : List D} (m : ∀ a, M a → H a ≠ none) (hp : H p = none) (r : Reps K M H vs ds) : Step NoF M H M (upd H p (.tup vs)) ∧ Rep K M (upd H p (.tup vs)) (.ref p) (.tup ds) := by
  have s : Step NoF M H M (upd H p (.tup vs)) := .laid hp
  exact ⟨s, .tup trivial upd_same (r.tr (s.tr fun _ z => z.elim))⟩
theorem newLst {M : Addr → Prop} {H : Hp} {p : Addr} {vs : List V} {ds : List D} (m : ∀ a, M a → H a ≠ none) (hp : H p = none) (r : Reps K M H vs ds) : Step NoF M H M (upd H p (.lst vs)) ∧ Rep K M (upd H p (.lst vs)) (.ref p) (.lst ds) := by
  have s : Step NoF M H M (upd H p (.lst vs)) := .laid hp
  exact ⟨s, .lst (fun z => m p z hp) upd_same (r.tr (s.tr fun _ z => z.elim))⟩
theorem Step.id {M : Addr → Prop} {H : Hp} : Step NoF M H M H := Step.refl
theorem rd_I0 {g : Int → Int → V} {f : Int → Int → D} (h : ∀ i j M H, Rep K M H (g i j) (f i j)) : RD K (rI0 g) (iiD f) := fun M H x y dx dy d Q m rx ry e k => by
  unfold iiD at e
  split at e
  · cases e; cases rx; cases ry
    exact ⟨_, _, rfl, rfl, k _ H .refl (h _ _ _ _)⟩
  · cases e
theorem rd_I {C : Int → Int → Prop} {c : Int → Int → Bool} {g : Int → Int → V} {f : Int → Int → D} (hc : ∀ i j, c i j = true → C i j) (h : ∀ i j M H, Rep K M H (g i j) (f i j)) : RD K (rI C g) (iicD c f) := fun M H x y dx dy d Q m rx ry e k => by
  unfold iicD at e
  split at e
  · split at e
    · rename_i hh
      cases e; cases rx; cases ry
      exact ⟨_, _, rfl, rfl, hc _ _ hh, k _ H .refl (h _ _ _ _)⟩
    · cases e
  · cases e
theorem RD.or {r r' : R2} {f f' : D → D → Option D} (h : RD K r f) (h' : RD K r' f') : RD K (fun x y H Q => r x y H Q ∨ r' x y H Q) (fun x y => match f x y with | some d => some d | none => f' x y) := fun M H x y dx dy d Q m rx ry e k => by
  have e' : (match f dx dy with | some d => some d | none => f' dx dy) = some d := e
  cases e1 : f dx dy with
  | some d' => rw [e1] at e'; cases e'; exact .inl (h M H x y dx dy d Q m rx ry e1 k)
  | none => rw [e1] at e'; exact .inr (h' M H x y dx dy d Q m rx ry e' k)
def subI : D → D → Option D := iiD fun i j => .int (i - j)
def mulI : D → D → Option D := iicD (fun i j => decide ((-(2 ^ 64) < i ∧ i < 2 ^ 64) ∨ (-(2 ^ 64) < j ∧ j < 2 ^ 64))) fun i j => .int (i * j)
def divI : D → D → Option D := iicD (fun i j => decide (0 < j ∧ j < 2 ^ 64)) fun i j => .int (i / j)
def modI : D → D → Option D := iicD (fun i j => decide (0 < j)) fun i j => .int (i % j)
def powI : D → D → Option D := iicD (fun i j => decide (0 ≤ j ∧ j ≤ 1000 ∧ i.natAbs < 2 ^ 300)) fun i j => .int (i ^ j.toNat)
def ltI : D → D → Option D := iiD fun i j => .bl (decide (i < j))
def leI : D → D → Option D := iiD fun i j => .bl (decide (i ≤ j))
def gtI : D → D → Option D := iiD fun i j => .bl (decide (j < i))
def geI : D → D → Option D := iiD fun i j => .bl (decide (j ≤ i))
theorem rd_sub : RD K (rI0 fun i j => .int (i - j)) subI := rd_I0 fun _ _ _ _ => .int _
theorem rd_lt : RD K (rI0 fun i j => .bl (decide (i < j))) ltI := rd_I0 fun _ _ _ _ => .bl _
theorem rd_le : RD K (rI0 fun i j => .bl (decide (i ≤ j))) leI := rd_I0 fun _ _ _ _ => .bl _
theorem rd_gt : RD K (rI0 fun i j => .bl (decide (j < i))) gtI := rd_I0 fun _ _ _ _ => .bl _
theorem rd_ge : RD K (rI0 fun i j => .bl (decide (j ≤ i))) geI := rd_I0 fun _ _ _ _ => .bl _
theorem rd_mul : RD K (rI CMul fun i j => .int (i * j)) mulI := rd_I (fun i j h => by unfold CMul; exact of_decide_eq_true h) fun _ _ _ _ => .int _
theorem rd_div : RD K (rI CDivW fun i j => .int (i / j)) divI := rd_I (fun i j h => by
  obtain ⟨h1, h2⟩ := of_decide_eq_true h
  exact wide_div (b := 64) h1 (by omega) (by decide) (by decide)) fun _ _ _ _ => .int _
theorem rd_mod : RD K (rI (fun _ j => 0 < j) fun i j => .int (i % j)) modI := rd_I (fun i j h => of_decide_eq_true h) fun _ _ _ _ => .int _
def CPowW (i j : Int) : Prop := 0 ≤ j ∧ j ≤ 1000 ∧ i.natAbs < 2 ^ 300
theorem op_powW {X : Cx} : OpR X (binaryOp .Pow) (rI CPowW fun i j => .int (i ^ j.toNat)) := opI fun i j _ _ _ _ _ hc q => by
  obtain ⟨h1, h2, h3⟩ := hc
  refine PyProof.Rows.pow_int h1 ?_ q
  have hb : Builtin.Int.intBits i ≤ 300 := by
    by_cases h0 : i = 0
    · subst h0; decide
    · have := PySem.Flt.log2_lt_of (k := 300) (by decide) h3
      unfold Builtin.Int.intBits
      split <;> omega
  have h4 : (Builtin.Int.intBits i : Int) * j ≤ 300 * 1000 := Int.mul_le_mul (by omega) h2 h1 (by decide)
  omega
theorem rd_pow : RD K (rI CPowW fun i j => .int (i ^ j.toNat)) powI := rd_I (fun i j h => by unfold CPowW; exact of_decide_eq_true h) fun _ _ _ _ => .int _
end
section
variable {X : Cx}
def rAddA (K : PySem.W.Frag) : R2 := fun x y H Q => ((rI0 (fun i j => .int (i + j)) x y H Q ∨ ∃ i j, x = .str i ∧ y = .str j ∧ i.length + j.length ≤ sizeLine ∧ Q (.str (i ++ j)) H) ∨ rCat x y H Q) ∨ rCatA K x y H Q
theorem rd_addA {K : PySem.W.Frag} : RD K (rAddA K) addD := fun M H x y dx dy d Q m rx ry e k => by
  unfold addD at e
  split at e
  · cases e; cases rx; cases ry
    exact .inl (.inl (.inl ⟨_, _, rfl, rfl, k _ H .refl (.int _)⟩))
  · split at e
    · rename_i hs
      cases e; cases rx; cases ry
      exact .inl (.inl (.inr ⟨_, _, rfl, rfl, small_le hs, k _ H .refl (.str _)⟩))
    · cases e
  · split at e
    · rename_i hs
      cases e
      cases rx with
      | lst mx hx rx =>
        cases ry with
        | lst my hy ry =>
          refine .inl (.inr ⟨_, _, _, _, rfl, rfl, hx, hy, by rw [rx.length, ry.length]; exact small_le hs, fun p hp => ?_⟩)
          have s := newLst m hp (rx.append ry)
          exact k _ _ s.1 s.2
    · cases e
  · split at e
    · rename_i hs
      cases e
      cases id rx with
      | @tup a xs la mx hx rxs =>
        cases id ry with
        | @tup b ys lb my hy rys =>
          refine .inr ⟨_, _, _, _, rfl, rfl, .of hx, .of hy, by rw [rxs.length, rys.length]; exact small_le hs, fun z => ?_, fun _ z => ?_, fun _ _ p hp => ?_⟩
          · subst z
            cases rxs
            exact k _ H .refl ry
          · subst z
            cases rys
            rw [List.append_nil] at k
            exact k _ H .refl rx
          · have s := newTup m hp (rxs.append rys)
            exact k _ _ s.1 s.2
    · cases e
  · cases e
theorem op_addA : OpR X (binaryOp .Add) (rAddA X.K) := ((op_add.or op_add_str).or op_cat).or op_catA
end
end Dl
/-! text DL11 -/
set_option Elab.async false
set_option linter.all false
set_option maxRecDepth 100000
set_option maxHeartbeats 1000000
/-! The data layer: items, membership, equality, slices. -/
namespace Dl
open PySem PySem.Spec PyProof.Rows L2

theorem orPE {X : Cx} {e : Expr} {t t' : TE} (h : PE X e t) (h' : PE X e t') : PE X e (fun σ H Q => t σ H Q ∨ t' σ H Q) := ⟨fun pins s σ H Q I z => z.elim (h.run pins s σ H Q I) (h'.run pins s σ H Q I)⟩
theorem orPT {X : Cx} {e : Expr} {t t' : TT} (h : PT X e t) (h' : PT X e t') : PT X e (fun σ H Q => t σ H Q ∨ t' σ H Q) := ⟨fun pins s σ H Q I z => z.elim (h.run pins s σ H Q I) (h'.run pins s σ H Q I)⟩
theorem orPS {X : Cx} {e : Stmt} {t t' : TS} (h : PS X e t) (h' : PS X e t') : PS X e (fun D σ H => t D σ H ∨ t' D σ H) := ⟨fun pins s σ H D I z => z.elim (h.run pins s σ H D I) (h'.run pins s σ H D I)⟩
def orF (f f' : D → D → Option D) : D → D → Option D := fun x y => match f x y with
  | some d => some d
  | none => f' x y
theorem op2_or {f f' : D → D → Option D} {g g' : DE} {ρ : List W} {r : D × List W} (h : op2 (orF f f') g g' ρ = some r) : op2 f g g' ρ = some r ∨ op2 f' g g' ρ = some r := by
  unfold op2 at h ⊢
  cases e1 : g ρ with
  | none => rw [e1] at h; cases h
  | some p =>
    obtain ⟨x, ρ1⟩ := p
    rw [e1] at h
    dsimp only at h ⊢
    cases e2 : g' ρ1 with
    | none => rw [e2] at h; cases h
    | some q =>
      obtain ⟨y, ρ2⟩ := q
      rw [e2] at h
      dsimp only at h ⊢
      unfold orF at h
      cases e3 : f x y with
      | some d => rw [e3] at h; exact .inl h
      | none => rw [e3] at h; exact .inr h
theorem tD_or {K : PySem.W.Frag} {τ : Bool} {f f' : D → D → Option D} {g g' : DE} {σ : L2.St} {H : Hp} {Q : VK} (w : tD K τ (op2 (orF f f') g g') σ H Q) : tD K τ (op2 f g g') σ H Q ∨ tD K τ (op2 f' g g') σ H Q := by
  obtain ⟨B, M, F, ρ, d, ρ', er, eg, k⟩ := w
  exact (op2_or eg).imp (fun e => ⟨B, M, F, ρ, d, ρ', er, e, k⟩) fun e => ⟨B, M, F, ρ, d, ρ', er, e, k⟩
/-! ### keys -/
def keyD : D → Option Key
  | .int i => some (.inl i)
  | .str x => some (.inr x)
  | _ => none
def keysD : List D → Option (List Key)
  | [] => some []
  | d :: r => match keyD d with
    | none => none
    | some k => (keysD r).map (k :: ·)
def kget {κ α : Type} [DecidableEq κ] (k : κ) : List (κ × α) → Option α
  | [] => none
  | p :: r => if p.1 = k then some p.2 else kget k r
theorem valV_kget {κ : Type} [DecidableEq κ] {k : κ} : ∀ {l : List (κ × V)}, valV l k = kget k l
  | [] => rfl
  | p :: r => by
    unfold kget
    by_cases h : p.1 = k
    · rw [if_pos h, valV_pos h]
    · rw [if_neg h, valV_neg h, valV_kget]
theorem kget_ix {κ α β : Type} [DecidableEq κ] {k : κ} : ∀ {l : List (κ × α)} {l' : List (κ × β)}, l'.map (·.1) = l.map (·.1) → (kget k l = none ∧ kget k l' = none) ∨ ∃ (i : Nat) (x : α) (y : β), kget k l = some x ∧ kget k l' = some y ∧ (l.map (·.2))[i]? = some x ∧ (l'.map (·.2))[i]? = some y
  | [], [], _ => .inl ⟨rfl, rfl⟩
  | p :: r, [], h => by cases h
  | [], q :: s, h => by cases h
  | p :: r, q :: s, h => by
    have k1 : q.1 = p.1 := (List.cons.inj h).1
    have k2 : s.map (·.1) = r.map (·.1) := (List.cons.inj h).2
    unfold kget
    by_cases e : p.1 = k
    · rw [if_pos e, if_pos (k1.trans e)]
      exact .inr ⟨0, p.2, q.2, rfl, rfl, rfl, rfl⟩
    · rw [if_neg e, if_neg (fun z => e (k1.symm.trans z))]
      rcases kget_ix (k := k) k2 with z | ⟨i, x, y, h1, h2, h3, h4⟩
      · exact .inl z
      · exact .inr ⟨i + 1, x, y, h1, h2, h3, h4⟩
section
variable {K : PySem.W.Frag} {M : Addr → Prop} {H : Hp}
theorem Rep.key {v : V} {d : D} {k : Key} (r : Rep K M H v d) (h : keyD d = some k) : v = kV k := by
  cases d <;> first | cases h | skip
  · cases r; rfl
  · cases r; rfl
theorem Reps.keys : ∀ {vs : List V} {ds : List D} {ks : List Key}, Reps K M H vs ds → keysD ds = some ks → vs = ks.map kV
  | _, _, _, .nil, h => by cases h; rfl
  | _, _, _, .cons (d := d) (ds := ds) a b, h => by
    unfold keysD at h
    cases e : keyD d with
    | none => rw [e] at h; cases h
    | some k =>
      rw [e] at h
      obtain ⟨ks, h1, h2⟩ := Option.map_eq_some_iff.mp h
      subst h2
      rw [List.map_cons, ← a.key e, ← Reps.keys b h1]
/-- what a dict holds under a key: r -/
def dgetD : D → D → Option (Option D)
  | .dk l, k => (keyD k).map fun k => kget k l
  | .dt l, .tup ks => (keysD ks).map fun k => kget k l
  | _, _ => none
theorem dget_at {x y : V} {dx dy : D} {r : Option D} (rx : Rep K M H x dx) (ry : Rep K M H y dy) (h : dgetD dx dy = some r) : ∃ a o, x = .ref a ∧ DGet H a y o ∧ ((r = none ∧ o = none) ∨ ∃ v d, r = some d ∧ o = some v ∧ Rep K M H v d) := by
  unfold dgetD at h
  split at h
  · rename_i l k
    obtain ⟨k', h1, h2⟩ := Option.map_eq_some_iff.mp h
    cases rx with
    | @dk a kvs _ m hr hk rs =>
      refine ⟨a, kget k' kvs, rfl, .inl ⟨kvs, k', hr, ry.key h1, valV_kget.symm⟩, ?_⟩
      rcases kget_ix (k := k') hk with ⟨e1, e2⟩ | ⟨i, d, v, e1, e2, e3, e4⟩
      · exact .inl ⟨by rw [← h2, e1], e2⟩
      · obtain ⟨u, q1, q2⟩ := rs.get e3
        rw [e4] at q1
        cases q1
        exact .inr ⟨v, d, by rw [← h2, e1], e2, q2⟩
  · rename_i l ks
    obtain ⟨k', h1, h2⟩ := Option.map_eq_some_iff.mp h
    cases rx with
    | @dt a kvs _ m hr hk rs =>
      cases ry with
      | @tup b xs _ mb hb rb =>
        refine ⟨a, kget k' kvs, rfl, .inr ⟨kvs, k', b, hr, rfl, by rw [hb, rb.keys h1], valV_kget.symm⟩, ?_⟩
        rcases kget_ix (k := k') hk with ⟨e1, e2⟩ | ⟨i, d, v, e1, e2, e3, e4⟩
        · exact .inl ⟨by rw [← h2, e1], e2⟩
        · obtain ⟨u, q1, q2⟩ := rs.get e3
          rw [e4] at q1
          cases q1
          exact .inr ⟨v, d, by rw [← h2, e1], e2, q2⟩
  · cases h
/-! ### items -/
def ixL : D → D → Option D
  | .lst l, .int i => atI l i
  | .fl l, .int i => atI l i
  | _, _ => none
def ixT : D → D → Option D
  | .tup l, .int i => atI l i
  | _, _ => none
def ixS : D → D → Option D
  | .str z, .int i => if small z.length then (atI z.cps.toList i).map fun c => .str ⟨#[c]⟩ else none
  | _, _ => none
def ixD : D → D → Option D := fun x y => match dgetD x y with
  | some (some d) => some d
  | _ => none
def subD : D → D → Option D := orF (orF ixL ixT) (orF ixS ixD)
theorem atI_reps {vs : List V} {ds : List D} {i : Int} {d : D} (r : Reps K M H vs ds) (h : atI ds i = some d) : ∃ v, atI vs i = some v ∧ Rep K M H v d := by
  unfold atI at h ⊢
  rw [r.length]
  cases e : ixN ds.length i with
  | none => rw [e] at h; cases h
  | some j =>
    rw [e] at h
    obtain ⟨v, h1, h2⟩ := r.get (i := j) h
    exact ⟨v, h1, h2⟩
end
section
variable {K : PySem.W.Frag}
theorem rd_ixL : RD K (rIxL K) ixL := fun M H x y dx dy d Q m rx ry e k => by
  unfold ixL at e
  split at e
  · cases ry
    cases rx with
    | lst ma ha rs =>
      obtain ⟨v, h1, h2⟩ := atI_reps rs e
      exact ⟨_, _, _, v, rfl, rfl, .of ha, h1, k v H .refl h2⟩
  · cases ry
    cases rx with
    | fl ha rs =>
      obtain ⟨v, h1, h2⟩ := atI_reps rs e
      exact ⟨_, _, _, v, rfl, rfl, fl_sq ha, h1, k v H .refl h2⟩
  · cases e
theorem rd_ixT : RD K (rIxT K) ixT := fun M H x y dx dy d Q m rx ry e k => by
  unfold ixT at e
  split at e
  · cases ry
    cases rx with
    | tup ma ha rs =>
      obtain ⟨v, h1, h2⟩ := atI_reps rs e
      exact ⟨_, _, _, v, rfl, rfl, .of ha, h1, k v H .refl h2⟩
  · cases e
theorem rd_ixS : RD K rIxS ixS := fun M H x y dx dy d Q m rx ry e k => by
  unfold ixS at e
  split at e
  · split at e
    · rename_i hs
      obtain ⟨c, h1, h2⟩ := Option.map_eq_some_iff.mp e
      cases h2; cases rx; cases ry
      exact ⟨_, _, c, rfl, rfl, small_le hs, h1, k _ H .refl (.str _)⟩
    · cases e
  · cases e
def rGetD : R2 := fun x y H Q => ∃ a v, x = .ref a ∧ DGet H a y (some v) ∧ Q v H
theorem rd_ixD : RD K rGetD ixD := fun M H x y dx dy d Q m rx ry e k => by
  unfold ixD at e
  split at e
  · rename_i d' e1
    cases e
    obtain ⟨a, o, h1, h2, h3⟩ := dget_at rx ry e1
    rcases h3 with ⟨z, _⟩ | ⟨v, d', z1, z2, z3⟩
    · cases z
    · cases z1
      subst z2
      exact ⟨a, v, h1, h2, k v H .refl z3⟩
  · cases e
/-! ### in -/
def inSeq (neg : Bool) : D → D → Option D := fun x y => match y with
  | .lst l => if flD x && l.all flD then some (.bl (if neg then !(l.any fun z => eqF z x) else l.any fun z => eqF z x)) else none
  | .tup l => if flD x && l.all flD then some (.bl (if neg then !(l.any fun z => eqF z x) else l.any fun z => eqF z x)) else none
  | _ => none
where
  flD : D → Bool
    | .non => true
    | .bl _ => true
    | .int _ => true
    | .str _ => true
    | _ => false
  eqF : D → D → Bool
    | .non, .non => true
    | .bl a, .bl b => a == b
    | .bl a, .int b => (if a then 1 else 0) == b
    | .int a, .bl b => a == (if b then 1 else 0)
    | .int a, .int b => a == b
    | .str a, .str b => a == b
    | _, _ => false
theorem fl_rep {M : Addr → Prop} {H : Hp} {v : V} {d : D} (r : Rep K M H v d) (h : inSeq.flD d = true) : flatV v = true := by
  cases r <;> first | rfl | cases h
theorem eqF_rep {M : Addr → Prop} {H : Hp} {v u : V} {d e : D} (r : Rep K M H v d) (r' : Rep K M H u e) (h : inSeq.flD d = true) (h' : inSeq.flD e = true) : L2.eqV v u = inSeq.eqF d e := by
  cases r <;> cases r' <;> first | rfl | cases h | cases h'
theorem any_rep {M : Addr → Prop} {H : Hp} {x : V} {dx : D} (rx : Rep K M H x dx) (hx : inSeq.flD dx = true) : ∀ {vs : List V} {ds : List D}, Reps K M H vs ds → ds.all inSeq.flD = true → vs.all flatV = true ∧ inV x vs = ds.any fun z => inSeq.eqF z dx
  | _, _, .nil, _ => ⟨rfl, rfl⟩
  | _, _, .cons a b, h => by
    obtain ⟨h1, h2⟩ := Bool.and_eq_true_iff.mp h
    obtain ⟨e1, e2⟩ := any_rep rx hx b h2
    refine ⟨Bool.and_eq_true_iff.mpr ⟨fl_rep a h1, e1⟩, ?_⟩
    unfold inV at e2 ⊢
    rw [List.any_cons, List.any_cons, e2, eqF_rep a rx h1 hx]
theorem rd_inSeq (neg : Bool) : RD K (rIn K neg) (inSeq neg) := fun M H x y dx dy d Q m rx ry e k => by
  unfold inSeq at e
  split at e
  · split at e
    · rename_i hc
      obtain ⟨h1, h2⟩ := Bool.and_eq_true_iff.mp hc
      cases e
      cases ry with
      | lst ma ha rs =>
        obtain ⟨e1, e2⟩ := any_rep rx h1 rs h2
        exact ⟨_, _, rfl, .inl (.of ha), fl_rep rx h1, e1, by rw [e2]; exact k _ H .refl (.bl _)⟩
    · cases e
  · split at e
    · rename_i hc
      obtain ⟨h1, h2⟩ := Bool.and_eq_true_iff.mp hc
      cases e
      cases ry with
      | tup ma ha rs =>
        obtain ⟨e1, e2⟩ := any_rep rx h1 rs h2
        exact ⟨_, _, rfl, .inr (.of ha), fl_rep rx h1, e1, by rw [e2]; exact k _ H .refl (.bl _)⟩
    · cases e
  · cases e
/-- one sign in a text -/
def inStr (neg : Bool) : D → D → Option D
  | .str x, .str z => match x.cps.toList with
    | [c] => some (.bl (if neg then !decide (c ∈ z.cps.toList) else decide (c ∈ z.cps.toList)))
    | _ => none
  | _, _ => none
theorem one_sign {x : Str} {c : Nat} (h : x.cps.toList = [c]) : x = ⟨#[c]⟩ := by
  obtain ⟨a⟩ := x
  have : a.toList = [c] := h
  congr 1
  rw [← Array.toList_inj, this]
theorem rd_inStr : RD K (fun x y H Q => ∃ (c : Nat) (z : Str), x = .str ⟨#[c]⟩ ∧ y = .str z ∧ Q (.bl (decide (c ∈ z.cps.toList))) H) (inStr false) := fun M H x y dx dy d Q m rx ry e k => by
  unfold inStr at e
  split at e
  · split at e
    · rename_i c hc
      cases e; cases rx; cases ry
      rw [one_sign hc]
      exact ⟨c, _, rfl, rfl, k _ H .refl (.bl _)⟩
    · cases e
  · cases e
theorem rd_notInStr : RD K (fun x y H Q => ∃ (c : Nat) (z : Str), x = .str ⟨#[c]⟩ ∧ y = .str z ∧ Q (.bl (!decide (c ∈ z.cps.toList))) H) (inStr true) := fun M H x y dx dy d Q m rx ry e k => by
  unfold inStr at e
  split at e
  · split at e
    · rename_i c hc
      cases e; cases rx; cases ry
      rw [one_sign hc]
      exact ⟨c, _, rfl, rfl, k _ H .refl (.bl _)⟩
    · cases e
  · cases e
/-- a key in a dict -/
def inDict (neg : Bool) : D → D → Option D := fun x y => (dgetD y x).map fun o => .bl (if neg then !o.isSome else o.isSome)
def rInDict (neg : Bool) : R2 := fun y x H Q => ∃ a o, x = .ref a ∧ DGet H a y o ∧ Q (.bl (if neg then !o.isSome else o.isSome)) H
theorem rd_inDict (neg : Bool) : RD K (rInDict neg) (inDict neg) := fun M H x y dx dy d Q m rx ry e k => by
  unfold inDict at e
  obtain ⟨o, e1, e2⟩ := Option.map_eq_some_iff.mp e
  cases e2
  obtain ⟨a, r, h1, h2, h3⟩ := dget_at ry rx e1
  refine ⟨a, r, h1, h2, ?_⟩
  have : r.isSome = o.isSome := by
    rcases h3 with ⟨z1, z2⟩ | ⟨v, d', z1, z2, _⟩ <;> rw [z1, z2] <;> rfl
  rw [this]
  exact k _ H .refl (.bl _)
def inD (neg : Bool) : D → D → Option D := orF (inSeq neg) (orF (inStr neg) (inDict neg))
end
section
variable {X : Cx} {a b : Expr} {τ τ' : Bool} {pos : Pos} {g g' : DE}
theorem x_sub (hu : X.A.units + 1 < cLine) (ha : XD X a τ g) (hb : XD X b τ' g') (hs : PlainIx b := by exact fun _ _ => rfl) : XD X (.Subscript a b pos) (τ || τ') (op2 subD g g') :=
  imE (orPE (orPE (pe_ix ix_list ha hb hs) (pe_ix ix_tup ha hb hs)) (orPE (pe_ix ix_str ha hb hs) (pe_dget hu ha hb hs))) fun σ H Q w => by
    rcases tD_or w with w | w
    · rcases tD_or w with w | w
      · exact .inl (.inl (tD_op rd_ixL σ H Q w))
      · exact .inl (.inr (tD_op rd_ixT σ H Q w))
    · rcases tD_or w with w | w
      · exact .inr (.inl (tD_op rd_ixS σ H Q w))
      · exact .inr (.inr (tD_op (r := rGetD) rd_ixD σ H Q w))
theorem x_in (hu : X.A.units + 1 < cLine) (ha : XD X a τ g) (hb : XD X b τ' g') (h1 : behindInMarks .In b = false := by rfl) : XD X (.Compare a [.In] [b] pos) (τ || τ') (op2 (inD false) g g') :=
  imE (orPE (pe_cmpR op_in_seq ha hb h1) (orPE (pe_cmpR op_in_sign ha hb h1) (pe_cmp (pc_din hu ha hb) h1))) fun σ H Q w => by
    rcases tD_or w with w | w
    · exact .inl (tD_op (rd_inSeq false) σ H Q w)
    · rcases tD_or w with w | w
      · exact .inr (.inl (tD_op rd_inStr σ H Q w))
      · exact .inr (.inr (tD_op (r := rInDict false) (rd_inDict false) σ H Q w))
theorem x_notIn (hu : X.A.units + 1 < cLine) (ha : XD X a τ g) (hb : XD X b τ' g') (h1 : behindInMarks .NotIn b = false := by rfl) : XD X (.Compare a [.NotIn] [b] pos) (τ || τ') (op2 (inD true) g g') :=
  imE (orPE (pe_cmpR op_notIn_seq ha hb h1) (orPE (pe_cmpR op_notIn_sign ha hb h1) (pe_cmp (pc_dnotin hu ha hb) h1))) fun σ H Q w => by
    rcases tD_or w with w | w
    · exact .inl (tD_op (rd_inSeq true) σ H Q w)
    · rcases tD_or w with w | w
      · exact .inr (.inl (tD_op rd_notInStr σ H Q w))
      · exact .inr (.inr (tD_op (r := rInDict true) (rd_inDict true) σ H Q w))
/-- the same as tests -/
theorem tTest_of {K : PySem.W.Frag} {t : TE} (h : ∀ σ H Q, tD K τ g σ H Q → t σ H Q) (σ : L2.St) (H : Hp) (Q : Bool → Hp → Prop) (w : tT K τ (bE g) σ H Q) : tTest t σ H Q := by
  obtain ⟨B, M, F, ρ, d, ρ', er, eg, k⟩ := w
  refine h σ H _ ⟨B, M, F, ρ, .bl d, ρ', er, bE_some eg, fun v H' M' F' p r => ?_⟩
  cases r
  exact ⟨d, rfl, k H' M' F' p⟩
theorem t_in (hu : X.A.units + 1 < cLine) (ha : XD X a τ g) (hb : XD X b τ' g') (h1 : behindInMarks .In b = false := by rfl) : XT X (.Compare a [.In] [b] pos) (τ || τ') (bE (op2 (inD false) g g')) :=
  imT (orPT (pt_cmpR op_in_seq ha hb h1) (orPT (pt_cmpR op_in_sign ha hb h1) (pt_cmp (pc_din hu ha hb) h1))) fun σ H Q w => by
    have w2 := tTest_of (t := fun σ H Q => _ ∨ (_ ∨ _)) (fun σ H Q w => by
      rcases tD_or w with w | w
      · exact .inl (tD_op (rd_inSeq false) σ H Q w)
      · rcases tD_or w with w | w
        · exact .inr (.inl (tD_op rd_inStr σ H Q w))
        · exact .inr (.inr (tD_op (r := rInDict false) (rd_inDict false) σ H Q w))) σ H Q w
    exact w2
theorem t_notIn (hu : X.A.units + 1 < cLine) (ha : XD X a τ g) (hb : XD X b τ' g') (h1 : behindInMarks .NotIn b = false := by rfl) : XT X (.Compare a [.NotIn] [b] pos) (τ || τ') (bE (op2 (inD true) g g')) :=
  imT (orPT (pt_cmpR op_notIn_seq ha hb h1) (orPT (pt_cmpR op_notIn_sign ha hb h1) (pt_cmp (pc_dnotin hu ha hb) h1))) fun σ H Q w => by
    have w2 := tTest_of (t := fun σ H Q => _ ∨ (_ ∨ _)) (fun σ H Q w => by
      rcases tD_or w with w | w
      · exact .inl (tD_op (rd_inSeq true) σ H Q w)
      · rcases tD_or w with w | w
        · exact .inr (.inl (tD_op rd_notInStr σ H Q w))
        · exact .inr (.inr (tD_op (r := rInDict true) (rd_inDict true) σ H Q w))) σ H Q w
    exact w2
/-! ### equality -/
mutual
def toPy : D → Option PyData
  | .non => some .none
  | .bl b => some (.bool b)
  | .int i => some (.int i)
  | .str x => some (.str x)
  | .tup l => (toPys l).map .tuple
  | .lst l => (toPys l).map .list
  | _ => none
def toPys : List D → Option (List PyData)
  | [] => some []
  | d :: r => match toPy d with
    | none => none
    | some p => (toPys r).map (p :: ·)
end
mutual
theorem dp_of {K : PySem.W.Frag} {M : Addr → Prop} {H : Hp} : ∀ {v : V} {d : D} {p : PyData}, Rep K M H v d → toPy d = some p → Dp K H v p
  | _, _, _, .non, h => by cases h; exact .non
  | _, _, _, .bl b, h => by cases h; exact .bl b
  | _, _, _, .int i, h => by cases h; exact .int i
  | _, _, _, .str x, h => by cases h; exact .str x
  | _, _, _, .ty n, h => by cases h
  | _, _, _, .tup m e r, h => by
    obtain ⟨ps, h1, h2⟩ := Option.map_eq_some_iff.mp h
    subst h2
    exact .tup (.of e) (dps_of r h1)
  | _, _, _, .lst m e r, h => by
    obtain ⟨ps, h1, h2⟩ := Option.map_eq_some_iff.mp h
    subst h2
    exact .lst (.of e) (dps_of r h1)
  | _, _, _, .fl e r, h => by cases h
  | _, _, _, .dk m e z r, h => by cases h
  | _, _, _, .dt m e z r, h => by cases h
  | _, _, _, .obj m e z r, h => by cases h
theorem dps_of {K : PySem.W.Frag} {M : Addr → Prop} {H : Hp} : ∀ {vs : List V} {ds : List D} {ps : List PyData}, Reps K M H vs ds → toPys ds = some ps → DpAll K H vs ps
  | _, _, _, .nil, h => by cases h; exact .nil
  | _, _, _, .cons (d := d) (ds := ds) a b, h => by
    unfold toPys at h
    cases e : toPy d with
    | none => rw [e] at h; cases h
    | some p =>
      rw [e] at h
      obtain ⟨qs, h1, h2⟩ := Option.map_eq_some_iff.mp h
      subst h2
      exact .cons (dp_of a e) (dps_of b h1)
end
def eqD (neg : Bool) : D → D → Option D := fun x y => match toPy x with
  | none => none
  | some p => match toPy y with
    | none => none
    | some q => if SeqAt.shaped p && SeqAt.shaped q then some (.bl (if neg then !PyData.eqv p q else PyData.eqv p q)) else none
theorem rd_eqD {K : PySem.W.Frag} : RD K (rEqD K) (eqD false) := fun M H x y dx dy d Q m rx ry e k => by
  unfold eqD at e
  split at e
  · cases e
  · split at e
    · cases e
    · split at e
      · rename_i p e1 _ q e2 hs
        obtain ⟨h1, h2⟩ := Bool.and_eq_true_iff.mp hs
        cases e
        exact ⟨p, q, dp_of rx e1, dp_of ry e2, h1, h2, k _ H .refl (.bl _)⟩
      · cases e
theorem rd_neD {K : PySem.W.Frag} : RD K (rNeD K) (eqD true) := fun M H x y dx dy d Q m rx ry e k => by
  unfold eqD at e
  split at e
  · cases e
  · split at e
    · cases e
    · split at e
      · rename_i p e1 _ q e2 hs
        obtain ⟨h1, h2⟩ := Bool.and_eq_true_iff.mp hs
        cases e
        exact ⟨p, q, dp_of rx e1, dp_of ry e2, h1, h2, k _ H .refl (.bl _)⟩
      · cases e
end
end Dl
/-! text DL12 -/
set_option Elab.async false
set_option linter.all false
set_option maxRecDepth 100000
set_option maxHeartbeats 1000000
/-! The data layer: built-in functions. -/
namespace Dl
open PySem PySem.Spec PyProof.Rows L2

/-- r of the arguments' values is f of their data; what it makes is new -/
def CO (K : PySem.W.Frag) (r : List V → Hp → VK → Prop) (f : List D → Option O) : Prop := ∀ (M : Addr → Prop) (H : Hp) (vs : List V) (ds : List D) (o : O) (Q : VK), Mtr M H → Reps K M H vs ds → f ds = some o →
  (∀ v H' M' G, Step NoF M H M' H' → Mtr M' H' → Own K M' H' v o G → (∀ a, G a → M' a ∧ H a = none) → Q v H') → r vs H Q
def orC (f f' : List D → Option O) : List D → Option O := fun ds => match f ds with
  | some o => some o
  | none => f' ds
theorem CO.or {K : PySem.W.Frag} {r r' : List V → Hp → VK → Prop} {f f' : List D → Option O} (h : CO K r f) (h' : CO K r' f') : CO K (fun vs H Q => r vs H Q ∨ r' vs H Q) (orC f f') := fun M H vs ds o Q m rs e k => by
  unfold orC at e
  cases e1 : f ds with
  | some o' => rw [e1] at e; cases e; exact .inl (h M H vs ds o Q m rs e1 k)
  | none => rw [e1] at e; exact .inr (h' M H vs ds o Q m rs e k)
def callB (f : List D → Option O) (l : LE) : OE := fun ρ => match l ρ with
  | some (ds, ρ1) => (f ds).map fun o => (o, ρ1)
  | none => none
section
variable {X : Cx} {e : Expr} {es : List Expr} {x : Str} {p pos : Pos} {τ : Bool} {r : List V → Hp → VK → Prop} {f : List D → Option O} {l : LE} {id T : String}
theorem tD_callB {K : PySem.W.Frag} (hd : CO K r f) (σ : L2.St) (H : Hp) (Q : VK) (w : tO K τ (callB f l) σ H Q) : tCB r (tL K τ l) σ H Q := by
  obtain ⟨B, M, F, ρ, o, ρ', er, eg, kk⟩ := w
  unfold callB at eg
  split at eg
  · rename_i ds ρ1 e1
    obtain ⟨o', e2, e3⟩ := Option.map_eq_some_iff.mp eg
    cases e3
    refine ⟨B, M, F, ρ, ds, _, er, e1, fun vs H1 M1 F1 p1 r1 => hd M1 H1 vs ds o Q p1.er.mtr r1 e2 fun v H' M' G s mt ow gm => ?_⟩
    have pk := Post.trans er p1 (Post.keep false p1.er s mt)
    rw [Bool.or_false] at pk
    exact kk v H' M' F1 G pk ow (fun i a z q => p1.er.trk z (gm a q).2) fun a z => ⟨(gm a z).1, p1.step.fresh (gm a z).2⟩
  · cases eg
theorem cvCall {ex : Expr} (hd : CO X.K r f) (h : PE X ex (tCB r (tL X.K τ l))) : XO X ex τ (callB f l) := imE h fun σ H Q w => tD_callB hd σ H Q w
end
/-- f of one shared result -/
def sh1 (f : D → Option D) : List D → Option O
  | [x] => (f x).map .sh
  | _ => none
def sh2 (f : D → D → Option D) : List D → Option O
  | [x, y] => (f x y).map .sh
  | _ => none
section
variable {K : PySem.W.Frag}
theorem co_sh1 {r : List V → Hp → VK → Prop} {f : D → Option D} (h : ∀ (M : Addr → Prop) (H : Hp) (x : V) (dx d : D) (Q : VK), Mtr M H → Rep K M H x dx → f dx = some d → (∀ v H', Step NoF M H M H' → Rep K M H' v d → Q v H') → r [x] H Q) : CO K r (sh1 f) := fun M H vs ds o Q m rs e k => by
  unfold sh1 at e
  split at e
  · obtain ⟨d, e1, e2⟩ := Option.map_eq_some_iff.mp e
    cases e2
    cases rs with
    | cons r1 r2 =>
      cases r2
      exact h M H _ _ d Q m r1 e1 fun v H' s rv => k v H' M NoF s (mtr' s m) (.sh rv) fun _ z => z.elim
  · cases e
theorem co_sh2 {r : List V → Hp → VK → Prop} {f : D → D → Option D} (h : ∀ (M : Addr → Prop) (H : Hp) (x y : V) (dx dy d : D) (Q : VK), Mtr M H → Rep K M H x dx → Rep K M H y dy → f dx dy = some d → (∀ v H', Step NoF M H M H' → Rep K M H' v d → Q v H') → r [x, y] H Q) : CO K r (sh2 f) := fun M H vs ds o Q m rs e k => by
  unfold sh2 at e
  split at e
  · obtain ⟨d, e1, e2⟩ := Option.map_eq_some_iff.mp e
    cases e2
    cases rs with
    | cons r1 r2 =>
      cases r2 with
      | cons r2 r3 =>
        cases r3
        exact h M H _ _ _ _ d Q m r1 r2 e1 fun v H' s rv => k v H' M NoF s (mtr' s m) (.sh rv) fun _ z => z.elim
  · cases e
/-- a new owned list -/
theorem newOl {M : Addr → Prop} {H : Hp} {p : Addr} {vs : List V} {ds : List D} {Q : VK} (m : Mtr M H) (hp : H p = none) (r : Reps K M H vs ds) (k : ∀ v H' M' G, Step NoF M H M' H' → Mtr M' H' → Own K M' H' v (.ol ds) G → (∀ a, G a → M' a ∧ H a = none) → Q v H') : Q (.ref p) (upd H p (.lst vs)) := by
  have s : Step NoF M H (fun a => M a ∨ a = p) (upd H p (.lst vs)) := .laidM hp
  exact k (.ref p) _ _ (fun a => a = p) s (fun a z => z.elim (fun q => s.trk a (m a q)) fun q => by rw [q, upd_same]; exact fun z => nomatch z) (.ol rfl upd_same (r.tr (s.tr fun _ z => z.elim))) fun a z => ⟨.inr z, by rw [z]; exact hp⟩
/-! ### len -/
def lenD : D → Option D
  | .lst l => some (.int l.length)
  | .tup l => some (.int l.length)
  | .fl l => some (.int l.length)
  | .str z => if small z.length then some (.int z.length) else none
  | _ => none
theorem co_len : CO K (fun xs H Q => ∃ x n, xs = [x] ∧ LenV K x H n ∧ Q (.int n) H) (sh1 lenD) := co_sh1 fun M H x dx d Q m rx e k => by
  unfold lenD at e
  split at e
  · cases e
    cases rx with
    | lst ma ha rs => exact ⟨_, _, rfl, .inl ⟨_, .of ha, rs.length.symm⟩, k _ H .refl (.int _)⟩
  · cases e
    cases rx with
    | tup ma ha rs => exact ⟨_, _, rfl, .inr ⟨_, .of ha, rs.length.symm⟩, k _ H .refl (.int _)⟩
  · cases e
    cases rx with
    | fl ha rs => exact ⟨_, _, rfl, .inl ⟨_, fl_sq ha, rs.length.symm⟩, k _ H .refl (.int _)⟩
  · split at e
    · rename_i hs
      cases e; cases rx
      exact ⟨_, _, rfl, ⟨small_le hs, rfl⟩, k _ H .refl (.int _)⟩
    · cases e
  · cases e
/-! ### isinstance against a built-in class -/
def tyN : D → Option String
  | .non => some "NoneType"
  | .bl _ => some "bool"
  | .int _ => some "int"
  | .str _ => some "str"
  | .tup _ => some "tuple"
  | .lst _ => some "list"
  | .fl _ => some "list"
  | _ => none
def isiD : D → D → Option D
  | x, .ty n => match tyN x with
    | none => none
    | some t => (kitB t n).map .bl
  | _, _ => none
theorem tyN_at {M : Addr → Prop} {H : Hp} {v : V} {d : D} {t : String} (r : Rep K M H v d) (h : tyN d = some t) : TyX K H v (.type t) := by
  cases r <;> first | (cases h; done) | skip
  · cases h; exact .base .non
  · cases h; exact .base (.bl _)
  · cases h; exact .base (.int _)
  · cases h; exact .base (.str _)
  · rename_i h1 _; cases h; exact .base (.tup h1)
  · rename_i h1 _; cases h; exact .base (.lst h1)
  · rename_i h1 _; cases h
    rcases h1 with ⟨_, h1 | ⟨o, h1⟩⟩ | ⟨o, its, n, h1, h2, _⟩
    · exact .base (.lst h1)
    · exact .base (.frz h1)
    · exact .kList h1 h2
theorem co_isi : CO K (rIsi K) (sh2 isiD) := co_sh2 fun M H x y dx dy d Q m rx ry e k => by
  unfold isiD at e
  split at e
  · split at e
    · cases e
    · rename_i t ht
      obtain ⟨b, h1, h2⟩ := Option.map_eq_some_iff.mp e
      cases h2; cases ry
      exact ⟨x, _, .type t, _, b, rfl, .ty _, tyN_at rx ht, kit_ty h1, k _ H .refl (.bl b)⟩
  · cases e
/-! ### list(x), tuple(x) -/
def listO : List D → Option O
  | [.lst l] => some (.ol l)
  | [.tup l] => some (.ol l)
  | [.fl l] => some (.ol l)
  | _ => none
theorem co_list : CO K (fun xs H Q => ∃ p ys, xs = [.ref p] ∧ (SqL K H p ys ∨ SqT K H p ys) ∧ ∀ l, H l = none → Q (.ref l) (upd H l (.lst ys))) listO := fun M H vs ds o Q m rs e k => by
  unfold listO at e
  split at e
  · cases e
    cases rs with
    | cons r1 r2 =>
      cases r2
      cases r1 with
      | lst ma ha rs => exact ⟨_, _, rfl, .inl (.of ha), fun l hl => newOl m hl rs k⟩
  · cases e
    cases rs with
    | cons r1 r2 =>
      cases r2
      cases r1 with
      | tup ma ha rs => exact ⟨_, _, rfl, .inr (.of ha), fun l hl => newOl m hl rs k⟩
  · cases e
    cases rs with
    | cons r1 r2 =>
      cases r2
      cases r1 with
      | fl ha rs => exact ⟨_, _, rfl, .inl (fl_sq ha), fun l hl => newOl m hl rs k⟩
  · cases e
def tupleD : D → Option D
  | .lst l => some (.tup l)
  | .tup l => some (.tup l)
  | .fl l => some (.tup l)
  | _ => none
theorem co_tuple : CO K (fun xs H Q => ∃ p ys, xs = [.ref p] ∧ ((SqL K H p ys ∧ ∀ l, H l = none → Q (.ref l) (upd H l (.tup ys))) ∨ (SqT K H p ys ∧ Q (.ref p) H))) (sh1 tupleD) := co_sh1 fun M H x dx d Q m rx e k => by
  unfold tupleD at e
  split at e
  · cases e
    cases rx with
    | lst ma ha rs => exact ⟨_, _, rfl, .inl ⟨.of ha, fun l hl => k _ _ (newTup m hl rs).1 (newTup m hl rs).2⟩⟩
  · cases e
    cases id rx with
    | tup ma ha rs => exact ⟨_, _, rfl, .inr ⟨.of ha, k _ _ .refl rx⟩⟩
  · cases e
    cases rx with
    | fl ha rs => exact ⟨_, _, rfl, .inl ⟨fl_sq ha, fun l hl => k _ _ (newTup m hl rs).1 (newTup m hl rs).2⟩⟩
  · cases e
/-! ### ints -/
def intsD : List D → Option (List Int)
  | [] => some []
  | .int i :: r => (intsD r).map (i :: ·)
  | _ => none
theorem ints_at {M : Addr → Prop} {H : Hp} : ∀ {vs : List V} {ds : List D} {ns : List Int}, Reps K M H vs ds → intsD ds = some ns → vs = ns.map V.int
  | _, _, _, .nil, h => by cases h; rfl
  | _, _, _, .cons (d := d) (ds := ds) a b, h => by
    unfold intsD at h
    split at h
    · rename_i e; cases e
    · rename_i i r e
      cases e
      obtain ⟨ms, h1, h2⟩ := Option.map_eq_some_iff.mp h
      subst h2
      cases a
      rw [List.map_cons, ← ints_at b h1]
    · cases h
theorem reps_ints {M : Addr → Prop} {H : Hp} : ∀ ns : List Int, Reps K M H (ns.map V.int) (ns.map D.int)
  | [] => .nil
  | i :: r => .cons (.int i) (reps_ints r)
/-- the ints of a list (or of the script) -/
def lintsD : D → Option (List Int)
  | .lst l => intsD l
  | .fl l => intsD l
  | _ => none
theorem lints_at {M : Addr → Prop} {H : Hp} {v : V} {d : D} {ns : List Int} (r : Rep K M H v d) (h : lintsD d = some ns) : ∃ a, v = .ref a ∧ SqL K H a (ns.map V.int) := by
  unfold lintsD at h
  split at h
  · cases r with
    | lst m ha rs => rw [ints_at rs h] at ha; exact ⟨_, rfl, .of ha⟩
  · cases r with
    | fl ha rs => rw [ints_at rs h] at ha; exact ⟨_, rfl, fl_sq ha⟩
  · cases h
def sumD : D → Option D := fun x => (lintsD x).map fun ns => .int ns.sum
theorem co_sum : CO K (rSum K) (sh1 sumD) := co_sh1 fun M H x dx d Q m rx e k => by
  obtain ⟨ns, h1, h2⟩ := Option.map_eq_some_iff.mp e
  cases h2
  obtain ⟨a, rfl, hs⟩ := lints_at rx h1
  exact ⟨a, ns, rfl, hs, k _ H .refl (.int _)⟩
/-- the greatest, the least -/
def maxL : List Int → Option Int
  | [] => none
  | i :: r => some (r.foldl max i)
def minL : List Int → Option Int
  | [] => none
  | i :: r => some (r.foldl min i)
theorem foldl_max : ∀ (r : List Int) (i : Int), (r.foldl max i = i ∨ r.foldl max i ∈ r) ∧ i ≤ r.foldl max i ∧ ∀ y ∈ r, y ≤ r.foldl max i
  | [], i => ⟨.inl rfl, Int.le_refl _, fun _ h => nomatch h⟩
  | j :: r, i => by
    obtain ⟨h1, h2, h3⟩ := foldl_max r (max i j)
    rw [List.foldl_cons]
    refine ⟨?_, by omega, fun y hy => ?_⟩
    · rcases h1 with h1 | h1
      · rw [h1]
        by_cases q : i ≤ j
        · rw [show max i j = j by omega]; exact .inr List.mem_cons_self
        · exact .inl (by omega)
      · exact .inr (List.mem_cons_of_mem _ h1)
    · rcases List.mem_cons.mp hy with rfl | hy
      · omega
      · exact h3 y hy
theorem foldl_min : ∀ (r : List Int) (i : Int), (r.foldl min i = i ∨ r.foldl min i ∈ r) ∧ r.foldl min i ≤ i ∧ ∀ y ∈ r, r.foldl min i ≤ y
  | [], i => ⟨.inl rfl, Int.le_refl _, fun _ h => nomatch h⟩
  | j :: r, i => by
    obtain ⟨h1, h2, h3⟩ := foldl_min r (min i j)
    rw [List.foldl_cons]
    refine ⟨?_, by omega, fun y hy => ?_⟩
    · rcases h1 with h1 | h1
      · rw [h1]
        by_cases q : j ≤ i
        · rw [show min i j = j by omega]; exact .inr List.mem_cons_self
        · exact .inl (by omega)
      · exact .inr (List.mem_cons_of_mem _ h1)
    · rcases List.mem_cons.mp hy with rfl | hy
      · omega
      · exact h3 y hy
theorem maxL_is {ns : List Int} {m k : Int} (h : maxL ns = some k) (h1 : m ∈ ns) (h2 : ∀ y, y ∈ ns → y ≤ m) : m = k := by
  cases ns with
  | nil => cases h
  | cons i r =>
    cases h
    obtain ⟨q1, q2, q3⟩ := foldl_max r i
    have a1 : r.foldl max i ≤ m := q1.elim (fun e => by rw [e]; exact h2 i List.mem_cons_self) fun e => h2 _ (List.mem_cons_of_mem _ e)
    have a2 : m ≤ r.foldl max i := (List.mem_cons.mp h1).elim (fun e => by rw [e]; exact q2) fun e => q3 m e
    omega
theorem minL_is {ns : List Int} {m k : Int} (h : minL ns = some k) (h1 : m ∈ ns) (h2 : ∀ y, y ∈ ns → m ≤ y) : m = k := by
  cases ns with
  | nil => cases h
  | cons i r =>
    cases h
    obtain ⟨q1, q2, q3⟩ := foldl_min r i
    have a1 : m ≤ r.foldl min i := q1.elim (fun e => by rw [e]; exact h2 i List.mem_cons_self) fun e => h2 _ (List.mem_cons_of_mem _ e)
    have a2 : r.foldl min i ≤ m := (List.mem_cons.mp h1).elim (fun e => by rw [e]; exact q2) fun e => q3 m e
    omega
def maxD : D → Option D := fun x => match lintsD x with
  | some ns => (maxL ns).map .int
  | none => none
def minD : D → Option D := fun x => match lintsD x with
  | some ns => (minL ns).map .int
  | none => none
theorem co_max : CO K (rMax K) (sh1 maxD) := co_sh1 fun M H x dx d Q m rx e k => by
  unfold maxD at e
  split at e
  · rename_i ns h1
    obtain ⟨b, h2, h3⟩ := Option.map_eq_some_iff.mp e
    cases h3
    obtain ⟨a, rfl, hs⟩ := lints_at rx h1
    refine ⟨a, ns, rfl, hs, ?_, fun j q1 q2 => ?_⟩
    · cases ns with
      | nil => cases h2
      | cons i r => exact Nat.succ_pos _
    · rw [maxL_is h2 q1 q2]
      exact k _ H .refl (.int _)
  · cases e
theorem co_min : CO K (rMin K) (sh1 minD) := co_sh1 fun M H x dx d Q m rx e k => by
  unfold minD at e
  split at e
  · rename_i ns h1
    obtain ⟨b, h2, h3⟩ := Option.map_eq_some_iff.mp e
    cases h3
    obtain ⟨a, rfl, hs⟩ := lints_at rx h1
    refine ⟨a, ns, rfl, hs, ?_, fun j q1 q2 => ?_⟩
    · cases ns with
      | nil => cases h2
      | cons i r => exact Nat.succ_pos _
    · rw [minL_is h2 q1 q2]
      exact k _ H .refl (.int _)
  · cases e
def max2D : D → D → Option D := iiD fun i j => .int (max i j)
def min2D : D → D → Option D := iiD fun i j => .int (min i j)
theorem co_max2 : CO K (fun xs H Q => ∃ i j, xs = [.int i, .int j] ∧ Q (.int (if j > i then j else i)) H) (sh2 max2D) := co_sh2 fun M H x y dx dy d Q m rx ry e k => by
  unfold max2D iiD at e
  split at e
  · cases e; cases rx; cases ry
    refine ⟨_, _, rfl, ?_⟩
    have : ∀ i j : Int, (if j > i then j else i) = max i j := fun i j => by split <;> omega
    rw [this]
    exact k _ H .refl (.int _)
  · cases e
theorem co_min2 : CO K (fun xs H Q => ∃ i j, xs = [.int i, .int j] ∧ Q (.int (if j < i then j else i)) H) (sh2 min2D) := co_sh2 fun M H x y dx dy d Q m rx ry e k => by
  unfold min2D iiD at e
  split at e
  · cases e; cases rx; cases ry
    refine ⟨_, _, rfl, ?_⟩
    have : ∀ i j : Int, (if j < i then j else i) = min i j := fun i j => by split <;> omega
    rw [this]
    exact k _ H .refl (.int _)
  · cases e
/-! ### all, any -/
def blsD : List D → Option (List Bool)
  | [] => some []
  | .bl b :: r => (blsD r).map (b :: ·)
  | _ => none
theorem bls_at {M : Addr → Prop} {H : Hp} : ∀ {vs : List V} {ds : List D} {ns : List Bool}, Reps K M H vs ds → blsD ds = some ns → vs = ns.map V.bl
  | _, _, _, .nil, h => by cases h; rfl
  | _, _, _, .cons (d := d) (ds := ds) a b, h => by
    unfold blsD at h
    split at h
    · rename_i e; cases e
    · rename_i i r e
      cases e
      obtain ⟨ms, h1, h2⟩ := Option.map_eq_some_iff.mp h
      subst h2
      cases a
      rw [List.map_cons, ← bls_at b h1]
    · cases h
def allD : D → Option D
  | .lst l => (blsD l).map fun bs => .bl (bs.all id)
  | _ => none
def anyD : D → Option D
  | .lst l => (blsD l).map fun bs => .bl (bs.any id)
  | _ => none
theorem co_all : CO K (rAll K) (sh1 allD) := co_sh1 fun M H x dx d Q m rx e k => by
  unfold allD at e
  split at e
  · obtain ⟨bs, h1, h2⟩ := Option.map_eq_some_iff.mp e
    cases h2
    cases rx with
    | lst ma ha rs => rw [bls_at rs h1] at ha; exact ⟨_, bs, rfl, .of ha, k _ H .refl (.bl _)⟩
  · cases e
theorem co_any : CO K (rAny K) (sh1 anyD) := co_sh1 fun M H x dx d Q m rx e k => by
  unfold anyD at e
  split at e
  · obtain ⟨bs, h1, h2⟩ := Option.map_eq_some_iff.mp e
    cases h2
    cases rx with
    | lst ma ha rs => rw [bls_at rs h1] at ha; exact ⟨_, bs, rfl, .of ha, k _ H .refl (.bl _)⟩
  · cases e
/-! ### abs, int, str -/
def absD : D → Option D
  | .int i => some (.int (if i < 0 then -i else i))
  | _ => none
theorem co_abs : CO K (fun xs H Q => ∃ i, xs = [.int i] ∧ Q (.int (if i < 0 then -i else i)) H) (sh1 absD) := co_sh1 fun M H x dx d Q m rx e k => by
  unfold absD at e
  split at e
  · cases e; cases rx
    exact ⟨_, rfl, k _ H .refl (.int _)⟩
  · cases e
def intD : D → Option D
  | .int i => some (.int i)
  | .bl b => some (.int (if b then 1 else 0))
  | .str x => if x.length ≤ 640 then (PySem.intText? x).map .int else none
  | _ => none
def rIntA : List V → Hp → VK → Prop := fun xs H Q => ((∃ i, xs = [.int i] ∧ Q (.int i) H) ∨ ∃ k, xs = [.bl k] ∧ Q (.int (if k then 1 else 0)) H) ∨ ∃ a n, xs = [.str a] ∧ PySem.intText? a = some n ∧ a.length ≤ 640 ∧ Q (.int n) H
theorem cr_intA {X : Cx} : CallR X (.type "int") rIntA := call_int1.or call_int_str
theorem co_int : CO K rIntA (sh1 intD) := co_sh1 fun M H x dx d Q m rx e k => by
  unfold intD at e
  split at e
  · cases e; cases rx
    exact .inl (.inl ⟨_, rfl, k _ H .refl (.int _)⟩)
  · cases e; cases rx
    exact .inl (.inr ⟨_, rfl, k _ H .refl (.int _)⟩)
  · split at e
    · rename_i hl
      obtain ⟨n, h1, h2⟩ := Option.map_eq_some_iff.mp e
      cases h2; cases rx
      exact .inr ⟨_, n, rfl, h1, hl, k _ H .refl (.int _)⟩
    · cases e
  · cases e
def strD : D → Option D
  | .int i => if i.natAbs < 2 ^ 1000 then some (.str (toString i)) else none
  | .str x => some (.str x)
  | _ => none
def rStrA : List V → Hp → VK → Prop := fun xs H Q => (∃ i, xs = [.int i] ∧ i.natAbs.log2 < 1920 ∧ Q (.str (toString i)) H) ∨ ∃ a, xs = [.str a] ∧ Q (.str a) H
theorem cr_strA {X : Cx} : CallR X (.type "str") rStrA := call_str_int.or SkE.call_str_str
theorem co_str : CO K rStrA (sh1 strD) := co_sh1 fun M H x dx d Q m rx e k => by
  unfold strD at e
  split at e
  · split at e
    · rename_i hl
      cases e; cases rx
      exact .inl ⟨_, rfl, Nat.lt_trans (PySem.Flt.log2_lt_of (k := 1000) (by decide) hl) (by decide), k _ H .refl (.str _)⟩
    · cases e
  · cases e; cases rx
    exact .inr ⟨_, rfl, k _ H .refl (.str _)⟩
  · cases e
/-! ### sorted of ints -/
def sortI (ns : List Int) : List Int := ns.mergeSort fun a b => decide (a ≤ b)
theorem sortI_is {ns ms : List Int} (p : ms.Perm ns) (s : ms.Pairwise (· ≤ ·)) : ms = sortI ns := by
  have h1 : (sortI ns).Pairwise (· ≤ ·) := by
    have := List.pairwise_mergeSort (le := fun a b : Int => decide (a ≤ b)) (fun a b c h1 h2 => by simp at h1 h2 ⊢; omega) (fun a b => by simp; omega) ns
    exact this.imp fun h => of_decide_eq_true h
  exact List.Perm.eq_of_pairwise (le := fun a b : Int => a ≤ b) (fun a b _ _ h1 h2 => by omega) s h1 (p.trans (List.mergeSort_perm _ _).symm)
def sortedIO : List D → Option O
  | [x] => (lintsD x).map fun ns => .ol ((sortI ns).map .int)
  | _ => none
theorem co_sortedI : CO K (rSortedI K) sortedIO := fun M H vs ds o Q m rs e k => by
  unfold sortedIO at e
  split at e
  · obtain ⟨ns, h1, h2⟩ := Option.map_eq_some_iff.mp e
    cases h2
    cases rs with
    | cons r1 r2 =>
      cases r2
      obtain ⟨a, rfl, hs⟩ := lints_at r1 h1
      exact ⟨a, ns, rfl, hs, fun ms p hp hs hn => by
        rw [sortI_is hp hs]
        exact newOl m hn (reps_ints _) k⟩
  · cases e
end
end Dl
/-! text DL13 -/
set_option Elab.async false
set_option linter.all false
set_option maxRecDepth 100000
set_option maxHeartbeats 1000000
/-! The data layer: what loops and comprehensions walk. -/
namespace Dl
open PySem PySem.Spec PyProof.Rows L2

/-! ### enumerate of a tuple -/
/-- the tuple at a, its items in new pairs with their places -/
def IteT (K : PySem.W.Frag) (a : Addr) : It where
  go := fun i H => ∃ (xs : List V) (x : V), SqT K H a xs ∧ xs[i]? = some x
  yld := fun i H v H' => ∃ T x, v = .ref T ∧ H T = none ∧ H' = upd H T (.tup [.int (i : Nat), x]) ∧ ∀ xs, SqT K H a xs → xs[i]? = some x
  stop := fun i H => ∃ xs : List V, SqT K H a xs ∧ xs.length = i
def EnT (e it a : Addr) (i : Nat) (h : Heap) : Prop := (∃ old, IsEnum h e it (0 + ((i : Nat) : Int)) old) ∧ h.IsTupleIter it a i ∧ e ≠ it ∧ e ≠ a ∧ a ≠ it
/-- the library's walk of it -/
theorem enT_walk {P : Program} {w : World} {A : Around} (hh : A.handled = none) {e it a : Addr} (h1 : e ≠ it) (h2 : e ≠ a) (h3 : a ≠ it) (items : Array Value) :
    WalksT P w A e (e :: [it, a]) [e, it] items.size (fun i vals => ∃ t x, items[i]? = some x ∧ vals = #[.int (0 + (i : Int)) t, x]) (fun i h => (∃ old, IsEnum h e it (0 + (i : Int)) old) ∧ (h.IsTupleIter it a i ∧ h.IsTuple a items))
      (fun i T h => (∃ x, IsEnumOut h e it (0 + (i : Int) + 1) x T) ∧ (h.IsTupleIter it a (i + 1) ∧ h.IsTuple a items) ∧ T ≠ e ∧ T ≠ it) :=
  WalksT.enumFrom 0 (Draws.tuple (A := A.in1) hh it a h3 items) e h1 (by simp [h1, h2]) (by simp)
theorem turn_enT {P : Program} {w : World} {K : PySem.W.Frag} {elts : List Expr} {kk : Nat} {tpos : Pos} (a e it : Addr) : Turn P w K (.Tuple elts kk tpos) (IteT K a) [e, it] e (EnT e it a) where
  mem := List.mem_cons_self
  obj := by
    rintro i h ⟨⟨old, he⟩, ⟨o, ho, hc, hd⟩, _⟩ b hb
    rcases List.mem_cons.mp hb with rfl | hb
    · exact ⟨_, he, fun _ q => nomatch q⟩
    · obtain rfl := List.mem_singleton.mp hb
      exact ⟨o, ho, fun v q => by rw [hd] at q; cases q⟩
  keep := by
    rintro i h h' ⟨⟨old, he⟩, hi, ne⟩ k
    exact ⟨⟨old, k e List.mem_cons_self _ he⟩, hi.at fun o q => k it (by simp) o q, ne⟩
  item := by
    rintro X rfl rfl rfl hc i pins s σ H E I hf ⟨hen, hit, ne1, ne2, ne3⟩ ⟨xs, x, hq, hx⟩
    obtain ⟨its, rv, tp, _⟩ := I.tuple hq
    obtain ⟨u, hu, ru⟩ := rv.get hx
    have hi : i < its.toArray.size := by
      have := (List.getElem?_eq_some_iff.mp hu).1
      simpa using this
    have Wk := enT_walk (P := X.prog) (w := X.w) (A := X.A) (I.ok.hd hc) ne1 ne2 ne3 its.toArray
    have lte : ∀ b ∈ [e, it], b < s.heap.objs.size := by
      intro b hb
      rcases List.mem_cons.mp hb with rfl | hb
      · obtain ⟨old, he⟩ := hen; exact Heap.lt_size he
      · obtain rfl := List.mem_singleton.mp hb
        obtain ⟨o, ho, _⟩ := hit; exact Heap.lt_size ho
    refine Wk.item i s _ _ hi ⟨hen, hit, tp⟩ fun T vals h' tk hP hT isT mid kp => ⟨_, rfl, ?_⟩
    obtain ⟨t, x', hx', rfl⟩ := hP
    have ex : x' = u := by
      have : its.toArray[i]? = some u := by simpa using hu
      rw [hx'] at this
      cases this; rfl
    subst ex
    refine Wk.go elts kk tpos i T _ _ _ mid fun h'' st kp2 => ?_
    have nT : T ∉ [e, it] := Wk.apart i T h' mid
    obtain ⟨oT, hoT, hcT, nn, hdT⟩ := isT
    have hT2 : h''.get? T = some oT := kp2 T oT nT hoT
    have new : ObjOk X.prog X.w (upd H T (.tup [.int (i : Nat), x])) h'' T (.tup [.int (i : Nat), x]) := by
      refine ⟨by show 2 ≤ sizeLine; decide, [.int (0 + (i : Int)) t, x'], .cons ⟨t, by rw [Int.zero_add]⟩ (.cons ru .nil), oT, hT2, hcT, nn, hdT⟩
    have I1 : Inv X pins σ (upd H T (.tup [.int (i : Nat), x])) { s with heap := h'', toks := tk } :=
      I.turnedNew (ch := [e, it]) (fun b ob hb q => kp2 b ob hb (kp b ob hb q)) hf hT new
    refine ⟨.ref T, _, I1, rfl, ⟨T, x, rfl, I.hok.fresh hT, rfl, fun ys hy => by rw [I.tuple_inj hy hq]; exact hx⟩, ?_, fun b hb => ?_⟩
    · obtain ⟨⟨old, s1⟩, s2, s3⟩ := st
      exact ⟨⟨old, s1⟩, s2, ne1, ne2, ne3⟩
    · rw [upd_ne (Nat.ne_of_lt (Nat.lt_of_lt_of_le (lte b hb) hT))]
      exact (hf b hb).1
  done := by
    rintro X rfl rfl rfl hc i pins s σ H E I hf ⟨hen, hit, ne1, ne2, ne3⟩ ⟨xs, hq, hx⟩
    obtain ⟨its, rv, tp, _⟩ := I.tuple hq
    have hl := rv.length
    obtain ⟨f0, f1, f2, f3, f4, f5⟩ := hf e List.mem_cons_self
    have hie : i = its.toArray.size := by rw [List.size_toArray, ← hl]; exact hx.symm
    · have Wk := enT_walk (P := X.prog) (w := X.w) (A := X.A) (I.ok.hd hc) ne1 ne2 ne3 its.toArray
      refine Wk.done s _ _ (by rw [← hie]; exact ⟨hen, hit, tp⟩) fun h' tk kp => ⟨rfl, ?_⟩
      obtain ⟨g0, g1, g2, g3, g4, g5⟩ := hf it (by simp)
      refine I.step (g' := s.gens) (d' := s.drawn) (t' := tk) (ch := [e, it]) (fun b hb => ?_) (fun b o _ _ hc q _ => kp b o hc q) (fun b o _ _ hc q _ => ⟨o.slots, kp b o hc q⟩) (fun _ _ _ _ n => n) (fun b o hc q => ⟨o, kp b o hc q⟩) (fun _ _ q => q) (fun _ _ _ q => q) (fun b ps q => ⟨#[], by rw [q]; simp⟩) (fun m hm => ?_) (fun b u q => ?_) I.bare
      · rcases List.mem_cons.mp hb with rfl | hb
        · exact ⟨f3, f1, f4, f5⟩
        · obtain rfl := List.mem_singleton.mp hb
          exact ⟨g3, g1, g4, g5⟩
      · obtain ⟨o, es, ep, ho, r⟩ := hm
        exact ⟨o, es, ep, kp _ o (by simp only [List.mem_cons, List.not_mem_nil, or_false, not_or]; exact ⟨Ne.symm f1, Ne.symm g1⟩) ho, r⟩
      · have nn : ∀ c, H c ≠ none → c ∉ [e, it] := fun c hc' z => by
          rcases List.mem_cons.mp z with rfl | z
          · exact hc' f0
          · obtain rfl := List.mem_singleton.mp z
            exact hc' g0
        refine (I.hok b u q).stay (fun c v hcc r => kp c v (nn c ?_) r) (fun _ z => z) fun _ _ z => z
        rcases hcc with rfl | hcc
        · rw [q]; exact fun z => nomatch z
        · rw [hcc]; exact fun z => nomatch z
  self := by
    rintro A i s Q E ⟨⟨old, he⟩, _⟩ h
    exact wpAny_pyIter_enum he h
/-- enumerate(v), v anything whose iterator is one new object -/
theorem enum_new1 {v : Value} {ob : Obj} {G : Heap → Prop} (B : Begins v ob G) :
    Meets (Builtin.«enumerate.__new__» ⟨[.type "enumerate", v], []⟩) (fun _ R s => G s.heap ∧
      R (.ok (.ret (.ref (s.heap.push ob).objs.size))) { s with heap := (s.heap.push ob).push { cls := .type "enumerate", data := .fields #[.none, .bool false, .ref s.heap.objs.size, rawInt 0, .none, .none] } }) :=
  .of_wp fun M w A R ⟨hh, gs, dr, tk, os⟩ ⟨hg, fin⟩ => by
    have known := sub_enumerate
    have begin_ : ∀ {A' : Around} {E' Q' : Value → Shared → Prop}, Q' (.ref hh.objs.size) ⟨hh.push ob, gs, dr, tk, os⟩ → wpAny (model M w) A' (pyIter v) Q' E' ⟨hh, gs, dr, tk, os⟩ := fun q => B.iter M w _ _ ⟨hh, gs, dr, tk, os⟩ _ hg q
    wp_walk using begin_
    refine wpAny_stack_any fun above => wpAny_pure ?_
    split
    · rename_i cl _ _ _ _ _
      cases cl == Value.type "enumerate" <;> (wp_walk using begin_; exact ⟨_, rfl, fin⟩)
    · wp_walk using begin_
      exact ⟨_, rfl, fin⟩
/-- enumerate(t) begins -/
theorem call_enumT {M : Program} {w : World} {A : Around} {E : Value → Shared → Prop} {s : Shared} {a : Addr} {items : Array Value} {Q : Value → Shared → Prop} (ht : s.heap.IsTuple a items)
    (h : ∀ h', IsEnum h' (s.heap.objs.size + 1) s.heap.objs.size (0 + ((0 : Nat) : Int)) .none → h'.IsTupleIter s.heap.objs.size a 0 → (∀ b o, s.heap.get? b = some o → h'.get? b = some o) → Q (.ref (s.heap.objs.size + 1)) { s with heap := h' }) :
    wpAny (model M w) A (call (.type "enumerate") [.ref a]) Q E s := by
  have sz : (s.heap.push { cls := .type "tuple_iterator", data := .fields #[.ref a, .int 0 0] }).objs.size = s.heap.objs.size + 1 := Heap.size_push ..
  refine callType_new F.called_enumerate (by decide) (F.typeCall_enumerate_1 _) (F.newCall_enumerate_1 _) (fun obj => F.args_object_init_2 obj _) F.entry_enumerate_new (enum_new1 (begins_tuple a items)) ⟨ht, ?_⟩
  show _ ∧ _
  rw [sz]
  have at1 := Heap.get?_push_size (s.heap.push { cls := .type "tuple_iterator", data := .fields #[.ref a, .int 0 0] }) (o := { cls := .type "enumerate", data := .fields #[.none, .bool false, .ref s.heap.objs.size, rawInt 0, .none, .none] }) rfl
  rw [sz] at at1
  have at0 := Heap.get?_push_size s.heap (o := { cls := .type "tuple_iterator", data := .fields #[.ref a, .int 0 0] }) rfl
  exact ⟨⟨_, at1, rfl⟩, h _ at1 ⟨_, Heap.get?_push_of_some _ at0, rfl, rfl⟩ fun b o x => Heap.get?_push_of_some _ (Heap.get?_push_of_some _ x)⟩
def iEnT (K : PySem.W.Frag) (ta : TA) : TI := fun σ H R => ta σ H fun vs H1 => ∃ a xs, vs = [.ref a] ∧ SqT K H1 a xs ∧ R (IteT K a) H1
theorem pi_enT {X : Cx} {e : Expr} {ta : TA} {p pos tpos : Pos} {elts : List Expr} {kk : Nat} (hg : Gl X "enumerate") (hm : X.mg "enumerate" = none) (ha : PA X [e] ta) (hs : starEach [e] X.env = [(false, eval e X.env)] := by rfl) :
    PI X (.Tuple elts kk tpos) (.Call (.Name "enumerate" p) [e] [] pos) (iEnT X.K ta) := ⟨fun pins s σ H R I h => by
  refine Call_ (ld_blt I hg hm boot_enumerate (PyProof.Rows.callWith_type1 (thn (ha.run pos pins s σ H _ I h) fun us s1 z => ?_) hs rfl))
  obtain ⟨vs, H1, I1, r1, a, xs, rfl, hq, q⟩ := z
  cases r1 with
  | cons r rr =>
    cases rr
    cases r
    obtain ⟨its, rv, tp, _⟩ := I1.tuple hq
    have la : a < s1.heap.objs.size := by obtain ⟨o, ho, _⟩ := tp; exact Heap.lt_size ho
    refine call_enumT tp fun h' he hit kp => wpAny_pyIter_enum he ?_
    have I2 : Inv X pins σ H1 { s1 with heap := h' } := I1.kept (t' := s1.toks) kp
    refine ⟨s1.heap.objs.size + 1, [s1.heap.objs.size + 1, s1.heap.objs.size], EnT (s1.heap.objs.size + 1) s1.heap.objs.size a, IteT X.K a, H1, rfl, I2, turn_enT a _ _, ⟨⟨.none, he⟩, hit, Nat.succ_ne_self _, ?_, Nat.ne_of_lt la⟩, fun b hb => ?_, q⟩
    · exact fun z => absurd la (by rw [← z]; exact Nat.not_lt.mpr (Nat.le_succ _))
    · have hle : s1.heap.objs.size ≤ b := by
        rcases List.mem_cons.mp hb with rfl | hb
        · exact Nat.le_succ _
        · obtain rfl := List.mem_singleton.mp hb; exact Nat.le_refl _
      exact I1.fpOk hle (I1.hok.fresh hle)⟩
end Dl
/-! text DL14 -/
set_option Elab.async false
set_option linter.all false
set_option maxRecDepth 100000
set_option maxHeartbeats 1000000
/-! The data layer: what loops and comprehensions walk, as data. -/
namespace Dl
open PySem PySem.Spec PyProof.Rows L2

theorem Step.tr2 {F M M' : Addr → Prop} {H H' : Hp} (s : Step F M H M' H') (fm : ∀ a, F a → M a ∨ H a = none) : Tr M H M' H' := by
  have nf : ∀ a o, ¬ M a → H a = some o → ¬ F a := fun a o m e z => (fm a z).elim m fun q => by rw [q] at e; cases e
  refine ⟨fun a u m h _ => ?_, fun a xs _ h => s.tup a xs h, fun a xs m h => s.kept a _ h (nf a _ m h), fun a o xs m h => s.kept a _ h (nf a _ m h), fun a C dx fs m h => s.kept a _ h (nf a _ m h), fun a m t z => (s.new a z).elim m t⟩
  rcases h with h | ⟨o, h⟩
  · exact .inl (s.kept a _ h (nf a _ m h))
  · exact .inr ⟨o, s.kept a _ h (nf a _ m h)⟩
def seqD : D → Option (List D)
  | .lst l => some l
  | .tup l => some l
  | .fl l => some l
  | _ => none
def itE (f : D → Option (List D)) (g : DE) : LE := fun ρ => match g ρ with
  | some (d, ρ1) => (f d).map fun ds => (ds, ρ1)
  | none => none
def itL (f : List D → Option (List D)) (l : LE) : LE := fun ρ => match l ρ with
  | some (ds, ρ1) => (f ds).map fun es => (es, ρ1)
  | none => none
def pairsD : Nat → List D → List D
  | _, [] => []
  | i, d :: r => .tup [.int (i : Nat), d] :: pairsD (i + 1) r
theorem pairsD_get : ∀ (l : List D) (k i : Nat), (pairsD k l)[i]? = l[i]?.map fun d => .tup [.int ((k + i : Nat) : Int), d]
  | [], _, _ => by simp [pairsD]
  | d :: r, k, 0 => by simp [pairsD]
  | d :: r, k, i + 1 => by
    have := pairsD_get r (k + 1) i
    simp only [pairsD, List.getElem?_cons_succ]
    rw [this, show k + 1 + i = k + (i + 1) by omega]
theorem pairsD_length : ∀ (l : List D) (k : Nat), (pairsD k l).length = l.length
  | [], _ => rfl
  | d :: r, k => congrArg Nat.succ (pairsD_length r (k + 1))
def zipD (a b : List D) : List D := (a.zip b).map fun p => .tup [p.1, p.2]
def rangeD (lo : Int) (n : Nat) : List D := (List.range n).map fun (i : Nat) => .int (lo + (i : Nat))
section
variable {K : PySem.W.Frag} {M : Addr → Prop} {H : Hp} {a b : Addr} {xs ys : List V} {l l' : List D}
theorem wk_of {J : It} {n : Nat} {G : Hp → Prop} {Y : Nat → Hp → V → Hp → Prop} (w : Walk J n G Y) (hn : l.length = n) (h : ∀ (F M1 : Addr → Prop) (H1 : Hp), Tr M H M1 H1 → Mtr M1 H1 → G H1 ∧ ∀ i x H2, i < n → Y i H1 x H2 → Step NoF M1 H1 M1 H2 ∧ ∃ d, l[i]? = some d ∧ Rep K M1 H2 x d) : Wk K M H J l :=
  ⟨G, Y, by rw [hn]; exact w, fun F M1 H1 fm s mt => by rw [hn]; exact h F M1 H1 (s.tr2 fm) mt⟩
theorem sqRd (m : ¬ M a) {M1 : Addr → Prop} {H1 : Hp} (h : H a = some (.lst xs) ∨ ∃ o, H a = some (.frz o (.lst xs))) (t : Tr M H M1 H1) : SqL K H1 a xs := by
  rcases h with h | ⟨o, h⟩
  · exact SqL.of (t.lst a xs m h)
  · exact Or.inl (Or.inr ⟨o, t.fl a o xs m h⟩)
theorem sqFl {M1 : Addr → Prop} {H1 : Hp} (h : (¬ M a ∧ Rd H a (.lst xs)) ∨ KL K a xs) (t : Tr M H M1 H1) : SqL K H1 a xs :=
  h.imp (fun q => t.rd _ _ q.1 q.2 fun _ _ z => nomatch z) id
theorem wk_fl (h : (¬ M a ∧ Rd H a (.lst xs)) ∨ KL K a xs) (r : Reps K M H xs l) : Wk K M H (Itl K a) l :=
  wk_of walk_list r.length.symm fun F M1 H1 t mt => ⟨sqFl h t, fun i x H2 _ y => by
    obtain ⟨rfl, hx⟩ := y
    obtain ⟨d, e1, e2⟩ := r.getV hx
    exact ⟨.refl, d, e1, e2.tr t⟩⟩
theorem wk_list (m : ¬ M a) (h : H a = some (.lst xs) ∨ ∃ o, H a = some (.frz o (.lst xs))) (r : Reps K M H xs l) : Wk K M H (Itl K a) l :=
  wk_of walk_list r.length.symm fun F M1 H1 t mt => ⟨sqRd m h t, fun i x H2 _ y => by
    obtain ⟨rfl, hx⟩ := y
    obtain ⟨d, e1, e2⟩ := r.getV hx
    exact ⟨.refl, d, e1, e2.tr t⟩⟩
theorem wk_tup (m : True) (h : H a = some (.tup xs)) (r : Reps K M H xs l) : Wk K M H (Itt K a) l :=
  wk_of walk_tup r.length.symm fun F M1 H1 t mt => ⟨SqT.of (t.tup a xs m h), fun i x H2 _ y => by
    obtain ⟨rfl, hx⟩ := y
    obtain ⟨d, e1, e2⟩ := r.getV hx
    exact ⟨.refl, d, e1, e2.tr t⟩⟩
theorem wk_range (lo : Int) (n : Nat) : Wk K M H (Itr lo n) (rangeD lo n) :=
  wk_of walk_range (by simp [rangeD]) fun F M1 H1 t mt => ⟨trivial, fun i x H2 hi y => by
    obtain ⟨rfl, rfl⟩ := y
    refine ⟨.refl, .int (lo + i), ?_, .int _⟩
    simp [rangeD, hi]⟩
/-- a new pair -/
theorem pair_at {M1 : Addr → Prop} {H1 H2 : Hp} {v x y : V} {d e : D} {T : Addr} (mt : Mtr M1 H1) (hT : H1 T = none) (e2 : H2 = upd H1 T (.tup [x, y])) (ev : v = .ref T) (r1 : Rep K M1 H1 x d) (r2 : Rep K M1 H1 y e) : Step NoF M1 H1 M1 H2 ∧ Rep K M1 H2 v (.tup [d, e]) := by
  subst e2 ev
  exact newTup mt hT (.cons r1 (.cons r2 .nil))
theorem wk_enumF (h : (¬ M a ∧ Rd H a (.lst xs)) ∨ KL K a xs) (r : Reps K M H xs l) : Wk K M H (Ite K a) (pairsD 0 l) :=
  wk_of walk_enum (by rw [pairsD_length]; exact r.length.symm) fun F M1 H1 t mt => ⟨sqFl h t, fun i v H2 _ y => by
    obtain ⟨T, x, z, e1, e2, e3, e4, e5⟩ := y
    cases e4
    obtain ⟨d, q1, q2⟩ := r.getV e5
    obtain ⟨s1, s2⟩ := pair_at mt e2 e3 e1 (.int _) (q2.tr t)
    exact ⟨s1, _, by rw [pairsD_get, q1, Nat.zero_add]; rfl, s2⟩⟩
theorem wk_enumL (m : ¬ M a) (h : H a = some (.lst xs) ∨ ∃ o, H a = some (.frz o (.lst xs))) (r : Reps K M H xs l) : Wk K M H (Ite K a) (pairsD 0 l) :=
  wk_of walk_enum (by rw [pairsD_length]; exact r.length.symm) fun F M1 H1 t mt => ⟨sqRd m h t, fun i v H2 _ y => by
    obtain ⟨T, x, z, e1, e2, e3, e4, e5⟩ := y
    cases e4
    obtain ⟨d, q1, q2⟩ := r.getV e5
    obtain ⟨s1, s2⟩ := pair_at mt e2 e3 e1 (.int _) (q2.tr t)
    exact ⟨s1, _, by rw [pairsD_get, q1, Nat.zero_add]; rfl, s2⟩⟩
theorem walk_enT : Walk (IteT K a) xs.length (fun H => SqT K H a xs) (YPair (fun i => some (.int (i : Nat))) (fun i => xs[i]?)) :=
  ⟨fun i _ hi q => ⟨xs, xs[i], q, by simp [hi]⟩, fun _ q => ⟨xs, q, rfl⟩, fun i H v H' _ q y => by
    obtain ⟨T, x, h1, h2, h3, h4⟩ := y
    exact ⟨T, .int (i : Nat), x, h1, h2, h3, rfl, h4 xs q⟩⟩
theorem wk_enumT (m : True) (h : H a = some (.tup xs)) (r : Reps K M H xs l) : Wk K M H (IteT K a) (pairsD 0 l) :=
  wk_of walk_enT (by rw [pairsD_length]; exact r.length.symm) fun F M1 H1 t mt => ⟨SqT.of (t.tup a xs m h), fun i v H2 _ y => by
    obtain ⟨T, x, z, e1, e2, e3, e4, e5⟩ := y
    cases e4
    obtain ⟨d, q1, q2⟩ := r.getV e5
    obtain ⟨s1, s2⟩ := pair_at mt e2 e3 e1 (.int _) (q2.tr t)
    exact ⟨s1, _, by rw [pairsD_get, q1, Nat.zero_add]; rfl, s2⟩⟩
theorem zipD_get {i : Nat} {d e : D} (h1 : l[i]? = some d) (h2 : l'[i]? = some e) : (zipD l l')[i]? = some (.tup [d, e]) := by
  unfold zipD
  rw [List.getElem?_map, (List.getElem?_zip_eq_some (z := (d, e))).mpr ⟨h1, h2⟩]
  rfl
theorem wk_zipL (m : ¬ M a) (h : H a = some (.lst xs) ∨ ∃ o, H a = some (.frz o (.lst xs))) (r : Reps K M H xs l) (m' : ¬ M b) (h' : H b = some (.lst ys) ∨ ∃ o, H b = some (.frz o (.lst ys))) (r' : Reps K M H ys l') : Wk K M H (Itz K a b) (zipD l l') :=
  wk_of (walk_zip (xs := xs) (ys := ys) rfl) (by simp [zipD, r.length, r'.length]) fun F M1 H1 t mt => ⟨⟨sqRd m h t, sqRd m' h' t⟩, fun i v H2 _ y => by
    obtain ⟨T, x, z, e1, e2, e3, e4, e5⟩ := y
    obtain ⟨d, q1, q2⟩ := r.getV e4
    obtain ⟨e, q3, q4⟩ := r'.getV e5
    obtain ⟨s1, s2⟩ := pair_at mt e2 e3 e1 (q2.tr t) (q4.tr t)
    exact ⟨s1, _, zipD_get q1 q3, s2⟩⟩
theorem walk_zipT {n : Nat} (hn : n = min xs.length ys.length) : Walk (RZ.ItzT K a b) n (fun H => SqT K H a xs ∧ SqT K H b ys) (YPair (fun i => xs[i]?) (fun i => ys[i]?)) := by
  subst hn
  refine ⟨fun i _ hi q => ?_, fun _ q => ⟨xs, ys, q.1, q.2, by omega⟩, fun i H v H' _ q y => ?_⟩
  · exact ⟨xs, ys, xs[i]'(by omega), ys[i]'(by omega), q.1, q.2, by simp [show i < xs.length by omega], by simp [show i < ys.length by omega]⟩
  · obtain ⟨T, x, z, h1, h2, h3, h4, h5⟩ := y
    exact ⟨T, x, z, h1, h2, h3, h4 xs q.1, h5 ys q.2⟩
theorem wk_zipT (m : True) (h : H a = some (.tup xs)) (r : Reps K M H xs l) (m' : True) (h' : H b = some (.tup ys)) (r' : Reps K M H ys l') : Wk K M H (RZ.ItzT K a b) (zipD l l') :=
  wk_of (walk_zipT (xs := xs) (ys := ys) rfl) (by simp [zipD, r.length, r'.length]) fun F M1 H1 t mt => ⟨⟨SqT.of (t.tup a xs m h), SqT.of (t.tup b ys m' h')⟩, fun i v H2 _ y => by
    obtain ⟨T, x, z, e1, e2, e3, e4, e5⟩ := y
    obtain ⟨d, q1, q2⟩ := r.getV e4
    obtain ⟨e, q3, q4⟩ := r'.getV e5
    obtain ⟨s1, s2⟩ := pair_at mt e2 e3 e1 (q2.tr t) (q4.tr t)
    exact ⟨s1, _, zipD_get q1 q3, s2⟩⟩
end
section
variable {X : Cx} {tg e e2 a b : Expr} {τ : Bool} {p pos tpos : Pos} {g : DE} {l : LE} {elts : List Expr} {kk : Nat}
theorem orPI {t t' : TI} (h : PI X tg e t) (h' : PI X tg e t') : PI X tg e (fun σ H R => t σ H R ∨ t' σ H R) := ⟨fun pins s σ H R I z => z.elim (h.run pins s σ H R I) (h'.run pins s σ H R I)⟩
/-- for x in e, e a list or a tuple -/
theorem i_seq (h : XD X e τ g) : XI X tg e τ (itE seqD g) := imI (orPI (pi_list h) (pi_tup h)) fun σ H R ⟨B, M, F, ρ, ds, ρ', er, eg, k⟩ => by
  unfold itE at eg
  split at eg
  · rename_i d ρ1 e1
    obtain ⟨l, h1, h2⟩ := Option.map_eq_some_iff.mp eg
    cases h2
    unfold seqD at h1
    split at h1
    · cases h1
      refine .inl ⟨B, M, F, ρ, _, _, er, e1, fun v H' M' F' p r => ?_⟩
      cases r with
      | lst m ha rs => exact ⟨_, rfl, ⟨_, .of ha⟩, k _ H' M' F' p (wk_list m (.inl ha) rs)⟩
    · cases h1
      refine .inr ⟨B, M, F, ρ, _, _, er, e1, fun v H' M' F' p r => ?_⟩
      cases r with
      | tup m ha rs => exact ⟨_, rfl, ⟨_, .of ha⟩, k _ H' M' F' p (wk_tup m ha rs)⟩
    · cases h1
      refine .inl ⟨B, M, F, ρ, _, _, er, e1, fun v H' M' F' p r => ?_⟩
      cases r with
      | fl ha rs => exact ⟨_, rfl, ⟨_, fl_sq ha⟩, k _ H' M' F' p (wk_fl ha rs)⟩
    · cases h1
  · cases eg
def rng1D : List D → Option (List D)
  | [.int n] => if -1000000 ≤ n ∧ n ≤ 1000000 then some (rangeD 0 n.toNat) else none
  | _ => none
def rng2D : List D → Option (List D)
  | [.int i, .int n] => if -1000000 ≤ i ∧ i ≤ 1000000 ∧ -1000000 ≤ n ∧ n ≤ 1000000 then some (rangeD i (n - i).toNat) else none
  | _ => none
theorem cvRng1 (h : PI X tg e (iRng1 (tL X.K τ l))) : XI X tg e τ (itL rng1D l) := imI h fun σ H R ⟨B, M, F, ρ, ds, ρ', er, eg, k⟩ => by
  unfold itL at eg
  split at eg
  · rename_i ds' ρ1 e1
    obtain ⟨l', h1, h2⟩ := Option.map_eq_some_iff.mp eg
    cases h2
    unfold rng1D at h1
    split at h1
    · split at h1
      · rename_i hn
        cases h1
        refine ⟨B, M, F, ρ, _, _, er, e1, fun vs H' M' F' p r => ?_⟩
        cases r with
        | cons r1 r2 =>
          cases r2
          cases r1
          exact ⟨_, rfl, by omega, by omega, k _ H' M' F' p (wk_range 0 _)⟩
      · cases h1
    · cases h1
  · cases eg
theorem cvRng2 (h : PI X tg e (iRng2 (tL X.K τ l))) : XI X tg e τ (itL rng2D l) := imI h fun σ H R ⟨B, M, F, ρ, ds, ρ', er, eg, k⟩ => by
  unfold itL at eg
  split at eg
  · rename_i ds' ρ1 e1
    obtain ⟨l', h1, h2⟩ := Option.map_eq_some_iff.mp eg
    cases h2
    unfold rng2D at h1
    split at h1
    · split at h1
      · rename_i hn
        cases h1
        refine ⟨B, M, F, ρ, _, _, er, e1, fun vs H' M' F' p r => ?_⟩
        cases r with
        | cons r1 r2 =>
          cases r2 with
          | cons r2 r3 =>
            cases r3
            cases r1
            cases r2
            exact ⟨_, _, rfl, ⟨by omega, by omega, by omega, by omega⟩, k _ H' M' F' p (wk_range _ _)⟩
      · cases h1
    · cases h1
  · cases eg
def enumD : List D → Option (List D)
  | [.lst l] => some (pairsD 0 l)
  | [.tup l] => some (pairsD 0 l)
  | [.fl l] => some (pairsD 0 l)
  | _ => none
theorem cvEnum (h : PI X tg e (iEnum X.K (tL X.K τ l))) (h' : PI X tg e (iEnT X.K (tL X.K τ l))) : XI X tg e τ (itL enumD l) := imI (orPI h h') fun σ H R ⟨B, M, F, ρ, ds, ρ', er, eg, k⟩ => by
  unfold itL at eg
  split at eg
  · rename_i ds' ρ1 e1
    obtain ⟨l', h1, h2⟩ := Option.map_eq_some_iff.mp eg
    cases h2
    unfold enumD at h1
    split at h1
    · cases h1
      refine .inl ⟨B, M, F, ρ, _, _, er, e1, fun vs H' M' F' p r => ?_⟩
      cases r with
      | cons r1 r2 =>
        cases r2
        cases r1 with
        | lst m ha rs => exact ⟨_, _, rfl, .of ha, k _ H' M' F' p (wk_enumL m (.inl ha) rs)⟩
    · cases h1
      refine .inr ⟨B, M, F, ρ, _, _, er, e1, fun vs H' M' F' p r => ?_⟩
      cases r with
      | cons r1 r2 =>
        cases r2
        cases r1 with
        | tup m ha rs => exact ⟨_, _, rfl, .of ha, k _ H' M' F' p (wk_enumT m ha rs)⟩
    · cases h1
      refine .inl ⟨B, M, F, ρ, _, _, er, e1, fun vs H' M' F' p r => ?_⟩
      cases r with
      | cons r1 r2 =>
        cases r2
        cases r1 with
        | fl ha rs => exact ⟨_, _, rfl, fl_sq ha, k _ H' M' F' p (wk_enumF ha rs)⟩
    · cases h1
  · cases eg
def zip2D : List D → Option (List D)
  | [.lst a, .lst b] => some (zipD a b)
  | [.tup a, .tup b] => some (zipD a b)
  | _ => none
theorem cvZip (h : PI X tg e (RZ.iZipA X.K (tL X.K τ l))) : XI X tg e τ (itL zip2D l) := imI h fun σ H R ⟨B, M, F, ρ, ds, ρ', er, eg, k⟩ => by
  unfold itL at eg
  split at eg
  · rename_i ds' ρ1 e1
    obtain ⟨l', h1, h2⟩ := Option.map_eq_some_iff.mp eg
    cases h2
    unfold zip2D at h1
    split at h1
    · cases h1
      refine ⟨B, M, F, ρ, _, _, er, e1, fun vs H' M' F' p r => ?_⟩
      cases r with
      | cons r1 r2 =>
        cases r2 with
        | cons r2 r3 =>
          cases r3
          cases r1 with
          | lst m ha rs =>
            cases r2 with
            | lst m' ha' rs' => exact ⟨_, _, _, _, rfl, .inl ⟨.of ha, .of ha', k _ H' M' F' p (wk_zipL m (.inl ha) rs m' (.inl ha') rs')⟩⟩
    · cases h1
      refine ⟨B, M, F, ρ, _, _, er, e1, fun vs H' M' F' p r => ?_⟩
      cases r with
      | cons r1 r2 =>
        cases r2 with
        | cons r2 r3 =>
          cases r3
          cases r1 with
          | tup m ha rs =>
            cases r2 with
            | tup m' ha' rs' => exact ⟨_, _, _, _, rfl, .inr ⟨.of ha, .of ha', k _ H' M' F' p (wk_zipT m ha rs m' ha' rs')⟩⟩
    · cases h1
  · cases eg
end
end Dl
/-! text DL15 -/
set_option Elab.async false
set_option linter.all false
set_option maxRecDepth 100000
set_option maxHeartbeats 1000000
/-! The data layer: what stands at a name, or at a name's attribute, read and changed in its place. -/
namespace Dl
open PySem PySem.Spec PyProof.Rows L2

inductive Pth where
  | sl (i : Nat) | fd (i : Nat) (c f : Str)
def Pth.root : Pth → Nat
  | .sl i => i
  | .fd i _ _ => i
def gSl (i : Nat) (ρ : List W) : Option O := match ρ[i]? with
  | some (W.w _ o) => some o
  | _ => none
def gFd (i : Nat) (c f : Str) (ρ : List W) : Option O := match ρ[i]? with
  | some (W.w _ (.ob c' l)) => if c' = c then fget f l else none
  | some (W.w _ (.sh (.obj c' l))) => if c' = c then (fget f l).map .sh else none
  | _ => none
def pget (π : Pth) (ρ : List W) : Option O := match π with
  | .sl i => gSl i ρ
  | .fd i c f => gFd i c f ρ
def uSl (i : Nat) (o : O) (ρ : List W) : List W := match ρ[i]? with
  | some (W.w b _) => ρ.set i (.w b o)
  | _ => ρ
def uFd (i : Nat) (f : Str) (o : O) (ρ : List W) : List W := match ρ[i]? with
  | some (W.w b (.ob c' l)) => ρ.set i (.w b (.ob c' (fput f o l)))
  | _ => ρ
def pput (π : Pth) (o : O) (ρ : List W) : List W := match π with
  | .sl i => uSl i o ρ
  | .fd i _ f => uFd i f o ρ
/-- v stands at the path -/
def PAt (K : PySem.W.Frag) (H : Hp) (σ : L2.St) : Pth → V → Prop
  | .sl i, v => σ[i]? = some (some v)
  | .fd i c f, v => ∃ a dx fvs, σ[i]? = some (some (.ref a)) ∧ H a = some (.ins (He.ga K c) dx fvs) ∧ fvs.lookup f = some v
def isO : O → Bool
  | .sh _ => false
  | _ => true
section
variable {K : PySem.W.Frag} {B : V × (Addr → Prop)} {M M' : Addr → Prop} {F F' : Nat → Addr → Prop} {H H' : Hp} {σ : L2.St} {ρ ρ' : List W} {π : Pth} {o o' : O} {v v' : V}
theorem PAt.inj (h : PAt K H σ π v) (h' : PAt K H σ π v') : v = v' := by
  cases π with
  | sl i =>
    have e := (show σ[i]? = some (some v) from h).symm.trans (show σ[i]? = some (some v') from h')
    cases e; rfl
  | fd i c f =>
    obtain ⟨a, dx, fvs, h1, h2, h3⟩ := h
    obtain ⟨a', dx', fvs', h1', h2', h3'⟩ := h'
    rw [h1] at h1'; cases h1'
    rw [h2] at h2'; cases h2'
    rw [h3] at h3'; cases h3'; rfl
theorem PAt.keep (h : PAt K H σ π v) (s : Step NoF M H M' H') : PAt K H' σ π v := by
  cases π with
  | sl i => exact h
  | fd i c f =>
    obtain ⟨a, dx, fvs, h1, h2, h3⟩ := h
    exact ⟨a, dx, fvs, h1, s.kept _ _ h2 id, h3⟩
/-- what is at the path, and what becomes of the slots where it alone is changed -/
theorem ER.path (er : ER K B M F H σ ρ) (h : pget π ρ = some o) : ∃ v G, PAt K H σ π v ∧ Own K M H v o G ∧ (∀ a, G a → F π.root a) ∧
    (isO o = true → ∀ H' o', (∀ a, ¬ G a → H' a = H a) → (∀ a, H a ≠ none → H' a ≠ none) → (∀ a xs, H a = some (.tup xs) → H' a = some (.tup xs)) → Own K M H' v o' G → ER K B M F H' σ (pput π o' ρ)) := by
  cases π with
  | sl i =>
    replace h : gSl i ρ = some o := h
    unfold gSl at h
    split at h
    · rename_i b o2 e
      cases h
      obtain ⟨v, h1, h2, _⟩ := er.own i b _ e
      refine ⟨v, F i, h1, h2, fun a z => z, fun _ H' o' k1 k2 k3 ow => ?_⟩
      show ER K B M F H' σ (uSl i o' ρ)
      unfold uSl
      rw [e]
      have s : Step (F i) M H M H' := ⟨fun a u q n => by rw [k1 a n]; exact q, k2, fun _ m _ => m, fun _ m => .inl m, k3⟩
      have e2 := er.upd e h1 s (fun a z => k2 a (er.mtr a z)) ow (fun a z => z) (fun a z => .inl z) fun a z => er.sub i a z
      refine ⟨e2.len, fun j c o3 q => ?_, er.dis, er.sub, e2.mtr, er.f0, e2.b0⟩
      obtain ⟨u, q1, q2, q3⟩ := e2.own j c o3 q
      refine ⟨u, q1, q2.mono fun a z => ?_, q3⟩
      rcases z with ⟨z1, z2⟩ | ⟨_, z⟩
      · rw [z1]; exact z2
      · exact z
    · cases h
  | fd i c f =>
    replace h : gFd i c f ρ = some o := h
    unfold gFd at h
    split at h
    · rename_i b c' l e
      split at h
      · rename_i hc
        subst hc
        obtain ⟨v, h1, h2, h3⟩ := er.own i b _ e
        cases h2 with
        | @ob a dx _ fvs _ _ G0 fa ha hk rs s n =>
          obtain ⟨j, y, g1, g2, g3, g4, g5⟩ := fget_ix hk h
          obtain ⟨u, G, q1, q2, q3, q4⟩ := rs.get g1
          rw [g2] at q1
          cases q1
          refine ⟨y, G, ⟨a, dx, fvs, h1, ha, by rw [lookup_fget]; exact g3⟩, q2, fun b' z => s b' (q3 b' z), fun _ H' o' k1 k2 k3 ow => ?_⟩
          show ER K B M F H' σ (uFd i f o' ρ)
          unfold uFd
          rw [e]
          have st : Step (F i) M H M H' := ⟨fun a' u' q n' => by rw [k1 a' fun z => n' (s a' (q3 a' z))]; exact q, k2, fun _ m _ => m, fun _ m => .inl m, k3⟩
          have tr : Tr M H M H' := st.tr fun a' z => er.sub i a' z
          have ow2 : Own K M H' (.ref a) (.ob c' (fput f o' l)) (F i) := by
            refine .ob (G := G0) fa ((k1 a fun z => n (q3 a z)).trans ha) ?_ ?_ s n
            · rw [(g5 o').1]; exact hk
            · rw [(g5 o').2]
              have := q4 M H' o' y G tr (fun a' _ z => k1 a' z) ow fun a' z _ => z
              have ev : (fvs.map (·.2)).set j y = fvs.map (·.2) := by
                apply List.ext_getElem?
                intro m
                by_cases hm : m = j
                · subst hm
                  rw [List.getElem?_set_self (List.getElem?_eq_some_iff.mp g2).1, g2]
                · rw [List.getElem?_set_ne (Ne.symm hm)]
              rw [ev] at this
              exact this.mono fun a' z => z.elim id (q3 a')
          have e2 := er.upd e h1 st (fun a' z => k2 a' (er.mtr a' z)) ow2 (fun a' z => z) (fun a' z => .inl z) fun a' z => er.sub i a' z
          refine ⟨e2.len, fun m c o3 q => ?_, er.dis, er.sub, e2.mtr, er.f0, e2.b0⟩
          obtain ⟨u, w1, w2, w3⟩ := e2.own m c o3 q
          refine ⟨u, w1, w2.mono fun a' z => ?_, w3⟩
          rcases z with ⟨z1, z2⟩ | ⟨_, z⟩
          · rw [z1]; exact z2
          · exact z
      · cases h
    · rename_i b c' l e
      split at h
      · rename_i hc
        subst hc
        obtain ⟨d, h1, h2⟩ := Option.map_eq_some_iff.mp h
        cases h2
        obtain ⟨v, q1, q2, _⟩ := er.own i b _ e
        cases q2 with
        | sh r =>
          cases r with
          | obj m ha hk rs =>
            obtain ⟨u, z1, z2⟩ := Reps.fget hk rs h1
            exact ⟨u, NoF, ⟨_, _, _, q1, ha, z1⟩, .sh z2, fun _ z => z.elim, fun z => nomatch z⟩
      · cases h
    · cases h
end
def tPa (K : PySem.W.Frag) (π : Pth) : TE := fun σ H Q => ∃ v, PAt K H σ π v ∧ Q v H
abbrev XP (X : Cx) (e : Expr) (π : Pth) : Prop := PE X e (tPa X.K π)
section
variable {X : Cx} {e a b : Expr} {es : List Expr} {τ τ' : Bool} {p pos apos : Pos} {x c f : Str} {i : Nat} {π : Pth} {g : DE}
theorem p_sl (h : PE X (.Name x p) (tVar i)) : XP X (.Name x p) (.sl i) := h
theorem p_fd (h : PE X (.Name x p) (tVar i)) (hc : Cls X.K (He.ga X.K c)) (hn : NoAttr X.K (He.ga X.K c) f) (hb : attributeBase (.Name x p) f X.env (eval (.Name x p) X.env) = eval (.Name x p) X.env := by rfl) : XP X (.Attribute (.Name x p) f pos) (.fd i c f) := imE (pe_fld h hb) fun σ H Q ⟨v, ⟨a, dx, fvs, h1, h2, h3⟩, q⟩ =>
  ⟨.ref a, h1, a, _, dx, fvs, v, rfl, h2, hc, hn, h3, q⟩
/-- a shared thing at a path, as a value -/
def pE (π : Pth) : DE := fun ρ => match pget π ρ with
  | some (.sh d) => some (d, ρ)
  | _ => none
theorem x_p (h : XP X e π) : XD X e false (pE π) := imE h fun σ H Q ⟨B, M, F, ρ, d, ρ', er, eg, k⟩ => by
  unfold pE at eg
  split at eg
  · rename_i d' e1
    cases eg
    obtain ⟨v, G, h1, h2, _⟩ := er.path e1
    cases h2 with
    | sh r => exact ⟨v, h1, k v H M F (.refl _ er) r⟩
  · cases eg

/-! ### reading in place -/
/-- an item of what stands there -/
def subO : O → D → Option D
  | .ol l, .int j => atI l j
  | .ok l, k => match keyD k with
    | some k => kget k l
    | none => none
  | .ot l, .tup ks => match keysD ks with
    | some k => kget k l
    | none => none
  | _, _ => none
def subP (π : Pth) (g : DE) : DE := fun ρ => match pget π ρ with
  | some o => (match g ρ with
    | some (k, _) => (subO o k).map fun d => (d, ρ)
    | none => none)
  | none => none
section
variable {K : PySem.W.Frag} {B : V × (Addr → Prop)} {M M' : Addr → Prop} {F F' : Nat → Addr → Prop} {H H' : Hp} {σ : L2.St} {ρ ρ' : List W} {o : O} {G : Addr → Prop} {v y : V} {dy : D}
theorem own_dget {k : Key} {l : List (Key × D)} (h : Own K M H v (.ok l) G) (ry : Rep K M H y dy) (e1 : keyD dy = some k) : ∃ a r, v = .ref a ∧ DGet H a y r ∧ ((kget k l = none ∧ r = none) ∨ ∃ u d, kget k l = some d ∧ r = some u ∧ Rep K M H u d) := by
  cases h with
  | @ok a kvs _ _ ga ha hk rs =>
    refine ⟨a, kget k kvs, rfl, .inl ⟨kvs, k, .inl ha, ry.key e1, valV_kget.symm⟩, ?_⟩
    rcases kget_ix (k := k) hk with ⟨z1, z2⟩ | ⟨i, d, u, z1, z2, z3, z4⟩
    · exact .inl ⟨z1, z2⟩
    · obtain ⟨u', w1, w2⟩ := rs.get z3
      rw [z4] at w1
      cases w1
      exact .inr ⟨u, d, z1, z2, w2⟩
theorem own_dgetT {ks : List D} {k : List Key} {l : List (List Key × D)} (h : Own K M H v (.ot l) G) (ry : Rep K M H y (.tup ks)) (e1 : keysD ks = some k) : ∃ a r, v = .ref a ∧ DGet H a y r ∧ ((kget k l = none ∧ r = none) ∨ ∃ u d, kget k l = some d ∧ r = some u ∧ Rep K M H u d) := by
  cases h with
  | @ot a kvs _ _ ga ha hk rs =>
    cases ry with
    | @tup b xs _ mb hb rb =>
      refine ⟨a, kget k kvs, rfl, .inr ⟨kvs, k, b, .inl ha, rfl, by rw [hb, rb.keys e1], valV_kget.symm⟩, ?_⟩
      rcases kget_ix (k := k) hk with ⟨z1, z2⟩ | ⟨i, d, u, z1, z2, z3, z4⟩
      · exact .inl ⟨z1, z2⟩
      · obtain ⟨u', w1, w2⟩ := rs.get z3
        rw [z4] at w1
        cases w1
        exact .inr ⟨u, d, z1, z2, w2⟩
end
theorem x_subP (hu : X.A.units + 1 < cLine) (ha : XP X a π) (hb : XD X b false g) (hs : PlainIx b := by exact fun _ _ => rfl) : XD X (.Subscript a b pos) false (subP π g) :=
  imE (orPE (orPE (pe_ix ix_list ha hb hs) (pe_ix ix_tup ha hb hs)) (orPE (pe_ix ix_str ha hb hs) (pe_dget hu ha hb hs))) fun σ H Q ⟨B, M, F, ρ, d, ρ', er, eg, k⟩ => by
    unfold subP at eg
    split at eg
    · rename_i o e1
      split at eg
      · rename_i kd ρ1 e2
        obtain ⟨d', e3, e4⟩ := Option.map_eq_some_iff.mp eg
        cases e4
        obtain ⟨v, G, h1, h2, h3, _⟩ := er.path e1
        -- behind the key: all stands
        have key : ∀ (R : V → V → Hp → VK → Prop), (∀ y H1 M1, Tr M H M1 H1 → (∀ a, G a → H1 a = H a) → Mtr M1 H1 → Rep X.K M1 H1 y kd → (∀ u, Rep X.K M1 H1 u d → Q u H1) → R v y H1 Q) → tOp R (tPa X.K π) (tD X.K false g) σ H Q := fun R hR => by
          refine ⟨v, h1, B, M, F, ρ, kd, ρ1, er, e2, fun y H1 M1 F1 p1 ry => ?_⟩
          obtain ⟨s1, er1⟩ := p1.clean er rfl
          refine hR y H1 M1 (p1.tr er) (fun a z => s1.eq (er.trk (h3 a z)) id) er1.mtr ry fun u ru => k u H1 M1 F ⟨p1.step, er1, fun i a z => .inl z, fun _ => rfl⟩ ru
        unfold subO at e3
        split at e3
        · refine .inl (.inl (key _ fun y H1 M1 t kg mt ry fin => ?_))
          have h4 := h2.tr t kg
          cases h4 with
          | ol ga hl rs =>
            obtain ⟨u, w1, w2⟩ := atI_reps rs e3
            cases ry
            exact ⟨_, _, _, u, rfl, rfl, .of hl, w1, fin u w2⟩
        · split at e3
          · rename_i k' e5
            refine .inr (.inr (key rGetD fun y H1 M1 t kg mt ry fin => ?_))
            obtain ⟨a', r, w1, w2, w3⟩ := own_dget (h2.tr t kg) ry e5
            rcases w3 with ⟨z, _⟩ | ⟨u, d', z1, z2, z3⟩
            · rw [z] at e3; cases e3
            · rw [z1] at e3; cases e3
              subst z2
              exact ⟨a', u, w1, w2, fin u z3⟩
          · cases e3
        · split at e3
          · rename_i k' e5
            refine .inr (.inr (key rGetD fun y H1 M1 t kg mt ry fin => ?_))
            obtain ⟨a', r, w1, w2, w3⟩ := own_dgetT (h2.tr t kg) ry e5
            rcases w3 with ⟨z, _⟩ | ⟨u, d', z1, z2, z3⟩
            · rw [z] at e3; cases e3
            · rw [z1] at e3; cases e3
              subst z2
              exact ⟨a', u, w1, w2, fin u z3⟩
          · cases e3
        · cases e3
      · cases eg
    · cases eg
end
end Dl
/-! text DL16 -/
set_option Elab.async false
set_option linter.all false
set_option maxRecDepth 100000
set_option maxHeartbeats 1000000
/-! The data layer: lists and dicts in their place: asked, grown, changed. -/
namespace Dl
open PySem PySem.Spec PyProof.Rows L2

section
variable {X : Cx} {e a b : Expr} {es : List Expr} {τ τ' : Bool} {p pos apos : Pos} {x c f : Str} {i : Nat} {π : Pth} {g g' : DE} {l : LE}
/-! ### key in path -/
def inO (neg : Bool) : O → D → Option D
  | .ol l, k => inSeq neg k (.lst l)
  | .ok l, k => (keyD k).map fun k => .bl (if neg then !(kget k l).isSome else (kget k l).isSome)
  | .ot l, .tup ks => (keysD ks).map fun k => .bl (if neg then !(kget k l).isSome else (kget k l).isSome)
  | _, _ => none
def inP (neg : Bool) (g : DE) (π : Pth) : DE := fun ρ => match g ρ with
  | some (k, ρ1) => (match pget π ρ1 with
    | some o => (inO neg o k).map fun d => (d, ρ1)
    | none => none)
  | none => none
theorem some_of {α : Type} {u : Option α} {r : Option V} {d : Option D} (h : (d = none ∧ r = none) ∨ ∃ v x, d = some x ∧ r = some v ∧ True) : r.isSome = d.isSome := by
  rcases h with ⟨h1, h2⟩ | ⟨v, x, h1, h2, _⟩ <;> rw [h1, h2] <;> rfl
theorem tD_inP {K : PySem.W.Frag} (neg : Bool) (σ : L2.St) (H : Hp) (Q : VK) (w : tD K τ (inP neg g π) σ H Q) : tOp (rIn K neg) (tD K τ g) (tPa K π) σ H Q ∨ tOp (rInDict neg) (tD K τ g) (tPa K π) σ H Q := by
  obtain ⟨B, M, F, ρ, d, ρ', er, eg, k⟩ := w
  unfold inP at eg
  split at eg
  · rename_i kd ρ1 e1
    split at eg
    · rename_i o e2
      obtain ⟨d', e3, e4⟩ := Option.map_eq_some_iff.mp eg
      cases e4
      unfold inO at e3
      split at e3
      · rename_i l
        refine .inl ⟨B, M, F, ρ, _, _, er, e1, fun y H1 M1 F1 p1 ry => ?_⟩
        obtain ⟨v, G, h1, h2, h3, _⟩ := p1.er.path e2
        refine ⟨v, h1, ?_⟩
        cases h2 with
        | ol ga ha rs =>
          replace e3 : (if inSeq.flD kd && l.all inSeq.flD then some (D.bl (if neg then !(l.any fun z => inSeq.eqF z kd) else l.any fun z => inSeq.eqF z kd)) else none) = some d := e3
          split at e3
          · rename_i hc
            obtain ⟨c1, c2⟩ := Bool.and_eq_true_iff.mp hc
            cases e3
            obtain ⟨q1, q2⟩ := any_rep ry c1 rs c2
            exact ⟨_, _, rfl, .inl (.of ha), fl_rep ry c1, q1, by rw [q2]; exact k _ H1 M1 F1 p1 (.bl _)⟩
          · cases e3
      · rename_i l
        obtain ⟨k', e5, e6⟩ := Option.map_eq_some_iff.mp e3
        subst e6
        refine .inr ⟨B, M, F, ρ, _, _, er, e1, fun y H1 M1 F1 p1 ry => ?_⟩
        obtain ⟨v, G, h1, h2, h3, _⟩ := p1.er.path e2
        refine ⟨v, h1, ?_⟩
        obtain ⟨a, r, w1, w2, w3⟩ := own_dget h2 ry e5
        refine ⟨a, r, w1, w2, ?_⟩
        have : r.isSome = (kget k' l).isSome := by
          rcases w3 with ⟨z1, z2⟩ | ⟨u, d2, z1, z2, _⟩ <;> rw [z1, z2] <;> rfl
        rw [this]
        exact k _ H1 M1 F1 p1 (.bl _)
      · rename_i l ks
        obtain ⟨k', e5, e6⟩ := Option.map_eq_some_iff.mp e3
        subst e6
        refine .inr ⟨B, M, F, ρ, _, _, er, e1, fun y H1 M1 F1 p1 ry => ?_⟩
        obtain ⟨v, G, h1, h2, h3, _⟩ := p1.er.path e2
        refine ⟨v, h1, ?_⟩
        obtain ⟨a, r, w1, w2, w3⟩ := own_dgetT h2 ry e5
        refine ⟨a, r, w1, w2, ?_⟩
        have : r.isSome = (kget k' l).isSome := by
          rcases w3 with ⟨z1, z2⟩ | ⟨u, d2, z1, z2, _⟩ <;> rw [z1, z2] <;> rfl
        rw [this]
        exact k _ H1 M1 F1 p1 (.bl _)
      · cases e3
    · cases eg
  · cases eg
theorem x_inP (hu : X.A.units + 1 < cLine) (ha : XD X a τ g) (hb : XP X b π) (h1 : behindInMarks .In b = false := by rfl) : XD X (.Compare a [.In] [b] pos) τ (inP false g π) :=
  imE (orPE (pe_cmpR op_in_seq ha hb h1) (pe_cmp (pc_din hu ha hb) h1)) fun σ H Q w => tD_inP false σ H Q w
theorem x_notInP (hu : X.A.units + 1 < cLine) (ha : XD X a τ g) (hb : XP X b π) (h1 : behindInMarks .NotIn b = false := by rfl) : XD X (.Compare a [.NotIn] [b] pos) τ (inP true g π) :=
  imE (orPE (pe_cmpR op_notIn_seq ha hb h1) (pe_cmp (pc_dnotin hu ha hb) h1)) fun σ H Q w => tD_inP true σ H Q w
theorem t_inP (hu : X.A.units + 1 < cLine) (ha : XD X a τ g) (hb : XP X b π) (h1 : behindInMarks .In b = false := by rfl) : XT X (.Compare a [.In] [b] pos) τ (bE (inP false g π)) :=
  imT (orPT (pt_cmpR op_in_seq ha hb h1) (pt_cmp (pc_din hu ha hb) h1)) fun σ H Q w => by
    have w2 := tTest_of (t := fun σ H Q => _ ∨ _) (fun σ H Q w => tD_inP false σ H Q w) σ H Q w
    exact w2
theorem t_notInP (hu : X.A.units + 1 < cLine) (ha : XD X a τ g) (hb : XP X b π) (h1 : behindInMarks .NotIn b = false := by rfl) : XT X (.Compare a [.NotIn] [b] pos) τ (bE (inP true g π)) :=
  imT (orPT (pt_cmpR op_notIn_seq ha hb h1) (pt_cmp (pc_dnotin hu ha hb) h1)) fun σ H Q w => by
    have w2 := tTest_of (t := fun σ H Q => _ ∨ _) (fun σ H Q w => tD_inP true σ H Q w) σ H Q w
    exact w2
/-! ### len(path) -/
def lenO : O → Option D
  | .ol l => some (.int l.length)
  | .ok l => some (.int l.length)
  | .ot l => some (.int l.length)
  | _ => none
def lenP (π : Pth) : DE := fun ρ => match pget π ρ with
  | some o => (lenO o).map fun d => (d, ρ)
  | none => none
def rLenA (K : PySem.W.Frag) : List V → Hp → VK → Prop := fun xs H Q => ((∃ x n, xs = [x] ∧ LenV K x H n ∧ Q (.int n) H) ∨ ∃ a kvs, xs = [V.ref a] ∧ H a = some (.dK kvs) ∧ Q (.int kvs.length) H) ∨ rLenT xs H Q
theorem cr_lenA : CallR X (.builtin "len") (rLenA X.K) := (call_len.or call_lenD).or call_len_dT
theorem kvs_len {κ : Type} {kvs : List (κ × V)} {l : List (κ × D)} (h : kvs.map (·.1) = l.map (·.1)) : kvs.length = l.length := by
  have := congrArg List.length h
  simpa using this
theorem cvLenP {ex : Expr} (h : PE X ex (tCB (rLenA X.K) (tCons (tPa X.K π) tNil))) : XD X ex false (lenP π) := imE h fun σ H Q ⟨B, M, F, ρ, d, ρ', er, eg, k⟩ => by
  unfold lenP at eg
  split at eg
  · rename_i o e1
    obtain ⟨d', e3, e4⟩ := Option.map_eq_some_iff.mp eg
    cases e4
    obtain ⟨v, G, h1, h2, _⟩ := er.path e1
    refine ⟨v, h1, ?_⟩
    unfold lenO at e3
    split at e3
    · cases e3
      cases h2 with
      | ol ga ha rs => exact .inl (.inl ⟨_, _, rfl, .inl ⟨_, .of ha, rs.length.symm⟩, k _ H M F (.refl _ er) (.int _)⟩)
    · cases e3
      cases h2 with
      | ok ga ha hk rs => exact .inl (.inr ⟨_, _, rfl, ha, by rw [kvs_len hk]; exact k _ H M F (.refl _ er) (.int _)⟩)
    · cases e3
      cases h2 with
      | ot ga ha hk rs => exact .inr ⟨_, _, rfl, ha, by rw [kvs_len hk]; exact k _ H M F (.refl _ er) (.int _)⟩
    · cases e3
  · cases eg
/-! ### path == e, a list there -/
def eqP (neg : Bool) (π : Pth) (g : DE) : DE := fun ρ => match pget π ρ with
  | some (.ol l) => (match g ρ with
    | some (y, _) => (eqD neg (.lst l) y).map fun d => (d, ρ)
    | none => none)
  | _ => none
theorem tD_eqP {K : PySem.W.Frag} (neg : Bool) (R : R2) (hR : R = if neg then rNeD K else rEqD K) (σ : L2.St) (H : Hp) (Q : VK) (w : tD K false (eqP neg π g) σ H Q) : tOp R (tPa K π) (tD K false g) σ H Q := by
  obtain ⟨B, M, F, ρ, d, ρ', er, eg, k⟩ := w
  unfold eqP at eg
  split at eg
  · rename_i l e1
    split at eg
    · rename_i y ρ1 e2
      obtain ⟨d', e3, e4⟩ := Option.map_eq_some_iff.mp eg
      cases e4
      obtain ⟨v, G, h1, h2, h3, _⟩ := er.path e1
      refine ⟨v, h1, B, M, F, ρ, y, ρ1, er, e2, fun yv H1 M1 F1 p1 ry => ?_⟩
      obtain ⟨s1, er1⟩ := p1.clean er rfl
      have h4 := h2.tr (p1.tr er) fun a z => s1.eq (er.trk (h3 a z)) id
      have fin : ∀ u, Rep K M1 H1 u d → Q u H1 := fun u ru => k u H1 M1 F ⟨p1.step, er1, fun i a z => .inl z, fun _ => rfl⟩ ru
      cases h4 with
      | @ol q xs _ _ ga ha rs =>
        unfold eqD at e3
        split at e3
        · cases e3
        · rename_i pl q1
          split at e3
          · cases e3
          · rename_i py q2
            split at e3
            · rename_i hs
              obtain ⟨s1, s2⟩ := Bool.and_eq_true_iff.mp hs
              have dl : Dp K H1 (.ref q) pl := by
                obtain ⟨ps, r1, r2⟩ := Option.map_eq_some_iff.mp (show (toPys l).map PyData.list = some pl from q1)
                subst r2
                exact .lst (.of ha) (dps_of rs r1)
              cases neg with
              | false =>
                cases e3
                rw [hR]
                exact ⟨pl, py, dl, dp_of ry q2, s1, s2, fin _ (.bl _)⟩
              | true =>
                cases e3
                rw [hR]
                exact ⟨pl, py, dl, dp_of ry q2, s1, s2, fin _ (.bl _)⟩
            · cases e3
    · cases eg
  · cases eg
theorem x_eqP (hu : X.A.units + 64 < cLine) (ha : XP X a π) (hb : XD X b false g) : XD X (.Compare a [.Eq] [b] pos) false (eqP false π g) := imE (pe_cmpR (op_eqD hu) ha hb (nomark _)) fun σ H Q w => tD_eqP false _ rfl σ H Q w
theorem x_neP (hu : X.A.units + 64 < cLine) (ha : XP X a π) (hb : XD X b false g) : XD X (.Compare a [.NotEq] [b] pos) false (eqP true π g) := imE (pe_cmpR (op_neD hu) ha hb (nomark _)) fun σ H Q w => tD_eqP true _ rfl σ H Q w
theorem t_eqP (hu : X.A.units + 64 < cLine) (ha : XP X a π) (hb : XD X b false g) : XT X (.Compare a [.Eq] [b] pos) false (bE (eqP false π g)) := imT (pt_cmpR (op_eqD hu) ha hb (nomark _)) fun σ H Q w => tTest_of (fun σ H Q w => tD_eqP false _ rfl σ H Q w) σ H Q w
theorem t_neP (hu : X.A.units + 64 < cLine) (ha : XP X a π) (hb : XD X b false g) : XT X (.Compare a [.NotEq] [b] pos) false (bE (eqP true π g)) := imT (pt_cmpR (op_neD hu) ha hb (nomark _)) fun σ H Q w => tTest_of (fun σ H Q w => tD_eqP true _ rfl σ H Q w) σ H Q w
/-! ### changes -/
/-- where the path's object is still what it was when it was read -/
def stays (π : Pth) (τ : Bool) : Bool := match π with
  | .sl _ => true
  | .fd _ _ _ => !τ
theorem PAt.stays {K : PySem.W.Frag} {B : V × (Addr → Prop)} {M M' : Addr → Prop} {F F' : Nat → Addr → Prop} {H H' : Hp} {σ : L2.St} {ρ ρ' : List W} {v : V} (er : ER K B M F H σ ρ) (p : Post τ K B M F H σ ρ M' F' H' ρ') (hs : stays π τ = true) (h : PAt K H σ π v) : PAt K H' σ π v := by
  cases π with
  | sl i => exact h
  | fd i c f =>
    have t : τ = false := by cases τ <;> first | rfl | cases hs
    exact h.keep (p.clean er t).1
/-- the list there, with what is done to it -/
theorem ol_write {K : PySem.W.Frag} {B : V × (Addr → Prop)} {M : Addr → Prop} {F : Nat → Addr → Prop} {H : Hp} {σ : L2.St} {ρ : List W} {ds : List D} (er : ER K B M F H σ ρ) (h : pget π ρ = some (.ol ds)) : ∃ q xs, PAt K H σ π (.ref q) ∧ H q = some (.lst xs) ∧ Reps K M H xs ds ∧
    ∀ xs' ds', Reps K M H xs' ds' → PostS K B M F H M F (upd H q (.lst xs')) σ (pput π (.ol ds') ρ) := by
  obtain ⟨v, G, h1, h2, h3, h4⟩ := er.path h
  cases h2 with
  | @ol q xs _ _ ga ha rs =>
    refine ⟨q, xs, h1, ha, rs, fun xs' ds' r => ?_⟩
    have k1 : ∀ b, ¬ G b → upd H q (.lst xs') b = H b := fun b n => upd_ne fun z => n (by rw [z]; exact ga)
    have k2 : ∀ b, H b ≠ none → upd H q (.lst xs') b ≠ none := fun b t => by
      by_cases z : b = q
      · rw [z, upd_same]; exact fun z => nomatch z
      · rw [upd_ne z]; exact t
    have k3 : ∀ b ys, H b = some (.tup ys) → upd H q (.lst xs') b = some (.tup ys) := fun b ys e => by rw [upd_ne fun z => by rw [z, ha] at e; cases e]; exact e
    have st : Step (F π.root) M H M (upd H q (.lst xs')) := ⟨fun b u e n => by rw [k1 b fun z => n (h3 b z)]; exact e, k2, fun _ m _ => m, fun _ m => .inl m, k3⟩
    have tr : Tr M H M (upd H q (.lst xs')) := st.tr fun b z => er.sub _ b z
    exact ⟨st.mono fun b z => ⟨_, z⟩, h4 rfl _ _ k1 k2 k3 (.ol ga upd_same (r.tr tr)), fun j b z => .inl ⟨j, z⟩⟩
theorem ok_write {K : PySem.W.Frag} {B : V × (Addr → Prop)} {M : Addr → Prop} {F : Nat → Addr → Prop} {H : Hp} {σ : L2.St} {ρ : List W} {ds : List (Key × D)} (er : ER K B M F H σ ρ) (h : pget π ρ = some (.ok ds)) : ∃ q kvs, PAt K H σ π (.ref q) ∧ H q = some (.dK kvs) ∧ kvs.map (·.1) = ds.map (·.1) ∧ Reps K M H (kvs.map (·.2)) (ds.map (·.2)) ∧
    ∀ kvs' ds', kvs'.map (·.1) = ds'.map (·.1) → Reps K M H (kvs'.map (·.2)) (ds'.map (·.2)) → PostS K B M F H M F (upd H q (.dK kvs')) σ (pput π (.ok ds') ρ) := by
  obtain ⟨v, G, h1, h2, h3, h4⟩ := er.path h
  cases h2 with
  | @ok q kvs _ _ ga ha hk rs =>
    refine ⟨q, kvs, h1, ha, hk, rs, fun xs' ds' hk' r => ?_⟩
    have k1 : ∀ b, ¬ G b → upd H q (.dK xs') b = H b := fun b n => upd_ne fun z => n (by rw [z]; exact ga)
    have k2 : ∀ b, H b ≠ none → upd H q (.dK xs') b ≠ none := fun b t => by
      by_cases z : b = q
      · rw [z, upd_same]; exact fun z => nomatch z
      · rw [upd_ne z]; exact t
    have k3 : ∀ b ys, H b = some (.tup ys) → upd H q (.dK xs') b = some (.tup ys) := fun b ys e => by rw [upd_ne fun z => by rw [z, ha] at e; cases e]; exact e
    have st : Step (F π.root) M H M (upd H q (.dK xs')) := ⟨fun b u e n => by rw [k1 b fun z => n (h3 b z)]; exact e, k2, fun _ m _ => m, fun _ m => .inl m, k3⟩
    have tr : Tr M H M (upd H q (.dK xs')) := st.tr fun b z => er.sub _ b z
    exact ⟨st.mono fun b z => ⟨_, z⟩, h4 rfl _ _ k1 k2 k3 (.ok ga upd_same hk' (r.tr tr)), fun j b z => .inl ⟨j, z⟩⟩
theorem ot_write {K : PySem.W.Frag} {B : V × (Addr → Prop)} {M : Addr → Prop} {F : Nat → Addr → Prop} {H : Hp} {σ : L2.St} {ρ : List W} {ds : List (List Key × D)} (er : ER K B M F H σ ρ) (h : pget π ρ = some (.ot ds)) : ∃ q kvs, PAt K H σ π (.ref q) ∧ H q = some (.dT kvs) ∧ kvs.map (·.1) = ds.map (·.1) ∧ Reps K M H (kvs.map (·.2)) (ds.map (·.2)) ∧
    ∀ kvs' ds', kvs'.map (·.1) = ds'.map (·.1) → Reps K M H (kvs'.map (·.2)) (ds'.map (·.2)) → PostS K B M F H M F (upd H q (.dT kvs')) σ (pput π (.ot ds') ρ) := by
  obtain ⟨v, G, h1, h2, h3, h4⟩ := er.path h
  cases h2 with
  | @ot q kvs _ _ ga ha hk rs =>
    refine ⟨q, kvs, h1, ha, hk, rs, fun xs' ds' hk' r => ?_⟩
    have k1 : ∀ b, ¬ G b → upd H q (.dT xs') b = H b := fun b n => upd_ne fun z => n (by rw [z]; exact ga)
    have k2 : ∀ b, H b ≠ none → upd H q (.dT xs') b ≠ none := fun b t => by
      by_cases z : b = q
      · rw [z, upd_same]; exact fun z => nomatch z
      · rw [upd_ne z]; exact t
    have k3 : ∀ b ys, H b = some (.tup ys) → upd H q (.dT xs') b = some (.tup ys) := fun b ys e => by rw [upd_ne fun z => by rw [z, ha] at e; cases e]; exact e
    have st : Step (F π.root) M H M (upd H q (.dT xs')) := ⟨fun b u e n => by rw [k1 b fun z => n (h3 b z)]; exact e, k2, fun _ m _ => m, fun _ m => .inl m, k3⟩
    have tr : Tr M H M (upd H q (.dT xs')) := st.tr fun b z => er.sub _ b z
    exact ⟨st.mono fun b z => ⟨_, z⟩, h4 rfl _ _ k1 k2 k3 (.ot ga upd_same hk' (r.tr tr)), fun j b z => .inl ⟨j, z⟩⟩
/-- path.append(e) -/
def appS (π : Pth) (g : DE) : DS := fun ρ => match pget π ρ with
  | some (.ol _) => (match g ρ with
    | some (d, ρ1) => (match pget π ρ1 with
      | some (.ol l) => if small l.length then some (.nx (pput π (.ol (l ++ [d])) ρ1)) else none
      | _ => none)
    | none => none)
  | _ => none
theorem cvApp {ex : Expr} {pos : Pos} (hs : stays π τ = true) (h : PE X ex (tBM X.K "list" rAppend (tPa X.K π) (tCons (tD X.K τ g) tNil))) (hw : swapsWith ex none pos.line X.env = pure false := by rfl) : XS X (.Expr ex pos) (appS π g) := imS (ps_expr h hw) fun E σ H ⟨B, M, F, ρ, r, er, eg, k⟩ => by
  unfold appS at eg
  split at eg
  · rename_i l0 e0
    split at eg
    · rename_i d ρ1 e1
      split at eg
      · rename_i l1 e2
        split at eg
        · rename_i hsm
          cases eg
          obtain ⟨q, xs, h1, h2, _, _⟩ := ol_write er e0
          refine ⟨.ref q, h1, .inl ⟨rfl, xs, .of h2⟩, B, M, F, ρ, d, ρ1, er, e1, fun y H1 M1 F1 p1 ry => ?_⟩
          obtain ⟨q', xs', h1', h2', h3', h4'⟩ := ol_write p1.er e2
          have eq : q' = q := by
            have := PAt.inj h1' (PAt.stays er p1 hs h1)
            cases this; rfl
          subst eq
          refine ⟨q', xs', y, rfl, rfl, h2', by rw [h3'.length]; exact small_lt hsm, ?_⟩
          exact k _ _ _ _ (p1.toS.trans er (h4' _ _ (h3'.append (.cons ry .nil))))
        · cases eg
      · cases eg
    · cases eg
  · cases eg
/-- path.extend(e), e a list -/
def extS (π : Pth) (g : DE) : DS := fun ρ => match pget π ρ with
  | some (.ol _) => (match g ρ with
    | some (.lst d, ρ1) => (match pget π ρ1 with
      | some (.ol l) => if small (l.length + d.length) then some (.nx (pput π (.ol (l ++ d)) ρ1)) else none
      | _ => none)
    | _ => none)
  | _ => none
theorem cvExt {ex : Expr} {pos : Pos} (hs : stays π τ = true) (h : PE X ex (tBM X.K "list" rExtend (tPa X.K π) (tCons (tD X.K τ g) tNil))) (hw : swapsWith ex none pos.line X.env = pure false := by rfl) : XS X (.Expr ex pos) (extS π g) := imS (ps_expr h hw) fun E σ H ⟨B, M, F, ρ, r, er, eg, k⟩ => by
  unfold extS at eg
  split at eg
  · rename_i l0 e0
    split at eg
    · rename_i d ρ1 e1
      split at eg
      · rename_i l1 e2
        split at eg
        · rename_i hsm
          cases eg
          obtain ⟨q, xs, h1, h2, _, _⟩ := ol_write er e0
          refine ⟨.ref q, h1, .inl ⟨rfl, xs, .of h2⟩, B, M, F, ρ, _, ρ1, er, e1, fun y H1 M1 F1 p1 ry => ?_⟩
          obtain ⟨q', xs', h1', h2', h3', h4'⟩ := ol_write p1.er e2
          have eq : q' = q := by
            have := PAt.inj h1' (PAt.stays er p1 hs h1)
            cases this; rfl
          subst eq
          cases ry with
          | lst my hy ry =>
            refine ⟨q', _, xs', _, rfl, rfl, h2', hy, by rw [h3'.length, ry.length]; exact small_le hsm, ?_⟩
            exact k _ _ _ _ (p1.toS.trans er (h4' _ _ (h3'.append ry)))
        · cases eg
      · cases eg
    · cases eg
  · cases eg
/-- path.pop(), path.pop(i): the item -/
def popE (π : Pth) (l : LE) : DE := fun ρ => match pget π ρ with
  | some (.ol _) => (match l ρ with
    | some ([.int i], ρ1) => (match pget π ρ1 with
      | some (.ol l) => if -1000000 ≤ i ∧ i ≤ 1000000 then (match ixN l.length i with
        | some j => (l[j]?).map fun d => (d, pput π (.ol (l.eraseIdx j)) ρ1)
        | none => none) else none
      | _ => none)
    | some ([], ρ1) => (match pget π ρ1 with
      | some (.ol l) => (l[l.length - 1]?).map fun d => (d, pput π (.ol l.dropLast) ρ1)
      | _ => none)
    | _ => none)
  | _ => none
theorem PostS.toP {K : PySem.W.Frag} {B : V × (Addr → Prop)} {M M' : Addr → Prop} {F : Nat → Addr → Prop} {H H' : Hp} {σ : L2.St} {ρ ρ' : List W} (p : PostS K B M F H M' F H' σ ρ') : Post true K B M F H σ ρ M' F H' ρ' :=
  ⟨p.step.mono fun a z => ⟨rfl, z⟩, p.er, fun i a z => .inl z, fun z => nomatch z⟩
theorem cvPop {ex : Expr} (hs : stays π τ = true) (h : PE X ex (tBM X.K "list" rPopAt (tPa X.K π) (tL X.K τ l))) (hl : ∀ ρ ρ1, l ρ ≠ some ([], ρ1)) : XD X ex true (popE π l) := imE h fun σ H Q ⟨B, M, F, ρ, dd, ρ', er, eg, k⟩ => by
  unfold popE at eg
  split at eg
  · rename_i l0 e0
    split at eg
    · rename_i i ρ1 e1
      split at eg
      · rename_i l1 e2
        split at eg
        · rename_i hb
          split at eg
          · rename_i j e3
            obtain ⟨d, e4, e5⟩ := Option.map_eq_some_iff.mp eg
            cases e5
            obtain ⟨q, xs, h1, h2, _, _⟩ := ol_write er e0
            refine ⟨.ref q, h1, .inl ⟨rfl, xs, .of h2⟩, B, M, F, ρ, _, ρ1, er, e1, fun vs H1 M1 F1 p1 rs => ?_⟩
            obtain ⟨q', xs', h1', h2', h3', h4'⟩ := ol_write p1.er e2
            have eq : q' = q := by
              have := PAt.inj h1' (PAt.stays er p1 hs h1)
              cases this; rfl
            subst eq
            cases rs with
            | cons ri rs =>
              cases rs
              cases ri
              obtain ⟨u, w1, w2⟩ := h3'.get e4
              obtain ⟨z1, z2, _, _⟩ := ixN_seq e3
              refine ⟨q', xs', i, j, u, rfl, rfl, h2', by omega, by omega, by rw [h3'.length]; exact z1, w1, ?_⟩
              have p2 := h4' _ _ (h3'.eraseIdx j)
              have p3 := Post.trans er p1 p2.toP
              rw [Bool.or_true] at p3
              exact k u _ M1 F1 p3 (w2.tr (p2.tr p1.er))
          · cases eg
        · cases eg
      · cases eg
    · rename_i e1; exact absurd e1 (hl _ _)
    · cases eg
  · cases eg
theorem cvPop0 {ex : Expr} (h : PE X ex (tBM0 X.K "list" rPop (tPa X.K π))) : XD X ex true (popE π nilL) := imE h fun σ H Q ⟨B, M, F, ρ, dd, ρ', er, eg, k⟩ => by
  unfold popE nilL at eg
  dsimp only at eg
  split at eg
  · rename_i l0 e0
    obtain ⟨d, e4, e5⟩ := Option.map_eq_some_iff.mp eg
    cases e5
    obtain ⟨q, xs, h1, h2, h3, h4⟩ := ol_write er e0
    refine ⟨.ref q, h1, .inl ⟨rfl, xs, .of h2⟩, ?_⟩
    obtain ⟨u, w1, w2⟩ := h3.get e4
    refine ⟨q, xs, u, rfl, rfl, h2, by rw [h3.length]; exact w1, ?_⟩
    have r : Reps X.K M H xs.dropLast l0.dropLast := by rw [List.dropLast_eq_take, List.dropLast_eq_take, h3.length]; exact h3.take _
    have p2 := h4 _ _ r
    exact k u _ M F p2.toP (w2.tr (p2.tr er))
  · cases eg
end
end Dl
/-! text DL17 -/
set_option Elab.async false
set_option linter.all false
set_option maxRecDepth 100000
set_option maxHeartbeats 1000000
/-! The data layer: several stores at once, stores into lists and dicts. -/
namespace Dl
open PySem PySem.Spec PyProof.Rows L2

/-! ### expressions side by side, each a new object of its own -/
abbrev LOE := List W → Option (List O × List W)
def tLO (K : PySem.W.Frag) (τ : Bool) (g : LOE) : TA := fun σ H Q => ∃ B M F ρ os ρ', ER K B M F H σ ρ ∧ g ρ = some (os, ρ') ∧
  ∀ vs H' M' F' G, Post τ K B M F H σ ρ M' F' H' ρ' → Owns K M' H' vs os G → (∀ i a, F' i a → G a → False) → (∀ a, G a → M' a ∧ H a = none) → Q vs H'
abbrev XLO (X : Cx) (es : List Expr) (τ : Bool) (g : LOE) : Prop := PA X es (tLO X.K τ g)
def nilO : LOE := fun ρ => some ([], ρ)
def consO (g : OE) (l : LOE) : LOE := fun ρ => match g ρ with
  | some (o, ρ1) => (l ρ1).map fun p => (o :: p.1, p.2)
  | none => none
section
variable {X : Cx} {e a b : Expr} {es : List Expr} {τ τ' : Bool} {p pos apos : Pos} {x c f : Str} {i : Nat} {π : Pth}
theorem lo_nil : XLO X [] false nilO := imA pa_nil fun σ H Q ⟨B, M, F, ρ, d, ρ', er, eg, k⟩ => by
  cases eg
  exact k [] H M F NoF (.refl _ er) .nil (fun _ _ _ z => z) fun _ z => z.elim
theorem lo_cons {g : OE} {l : LOE} (ha : XO X e τ g) (hr : XLO X es τ' l) (hs : starEach (e :: es) X.env = (false, eval e X.env) :: starEach es X.env := by rfl) : XLO X (e :: es) (τ || τ') (consO g l) := imA (pa_cons ha hr hs) fun σ H Q ⟨B, M, F, ρ, d, ρ', er, eg, k⟩ => by
  unfold consO at eg
  split at eg
  · rename_i o ρ1 e1
    obtain ⟨⟨os, ρ2⟩, e3, e4⟩ := Option.map_eq_some_iff.mp eg
    cases e4
    refine ⟨B, M, F, ρ, o, ρ1, er, e1, fun v1 H1 M1 F1 G1 p1 w1 dj1 gm1 => ⟨B, M1, F1, ρ1, os, _, p1.er, e3, fun vs H2 M2 F2 G2 p2 w2 dj2 gm2 => ?_⟩⟩
    have t : ∀ a, G1 a → H1 a ≠ none := fun a z => p1.er.mtr a (gm1 a z).1
    have n : ∀ a, G1 a → ¬ (τ' = true ∧ Un F1 a) := fun a z q => q.2.elim fun i w => dj1 i a w z
    refine k _ H2 M2 F2 (fun a => G1 a ∨ G2 a) (p1.trans er p2) (.cons (w1.tr (p2.tr p1.er) fun a z => p2.step.eq (t a z) (n a z)) w2 (fun a z z' => t a z (gm2 a z').2) (fun a z => .inl z) fun a z => .inr z) (fun i a z q => ?_) fun a z => ?_
    · rcases q with q | q
      · exact (p2.grow i a z).elim (fun w => dj1 i a w q) (t a q)
      · exact dj2 i a z q
    · rcases z with z | z
      · exact ⟨p2.step.old a (gm1 a z).1 (n a z), (gm1 a z).2⟩
      · exact ⟨(gm2 a z).1, p1.step.fresh (gm2 a z).2⟩
  · cases eg
/-- two names out of a displayed pair -/
def parO (i j : Nat) (l : LOE) : DS := fun ρ => match l ρ with
  | some ([x, y], ρ1) => if nb ρ1 i && nb ρ1 j then some (.nx ((ρ1.set i (.w false x)).set j (.w false y))) else none
  | _ => none
theorem nb_set {ρ : List W} {i j : Nat} {o : O} (h : nb ρ j = true) (hij : i ≠ j) : ∀ o', (ρ.set i (W.w false o))[j]? ≠ some (.w true o') := fun o' z => by
  rw [List.getElem?_set_ne hij] at z
  exact nb_ne h o' z
theorem tS_parO {K : PySem.W.Frag} {i j : Nat} {l : LOE} (hij : i ≠ j) (E : Ends) (σ : L2.St) (H : Hp) (w : tS K (parO i j l) E σ H) : tPar i j (tLO K τ l) E σ H := by
  obtain ⟨B, M, F, ρ, r, er, eg, k⟩ := w
  unfold parO at eg
  split at eg
  · rename_i x y ρ1 e1
    split at eg
    · rename_i hb
      cases eg
      obtain ⟨h1, h2⟩ := Bool.and_eq_true_iff.mp hb
      refine ⟨B, M, F, ρ, _, ρ1, er, e1, fun vs H' M' F' G p r dj gm => ?_⟩
      cases r with
      | cons r1 r d1 s1 s1' =>
        cases r with
        | cons r2 r d2 s2 s2' =>
          cases r
          refine ⟨_, _, rfl, ?_⟩
          have e2 := p.er.set (nb_ne h1) r1 (fun m a z q => dj m a z (s1 a q)) fun a z => (gm a (s1 a z)).1
          have e3 := e2.set (nb_set h2 hij) r2 (fun m a z q => z.elim (fun z => d1 a z.2 (s2 a q)) fun z => dj m a z.2 (s1' a (s2 a q))) fun a z => (gm a (s1' a (s2 a z))).1
          refine k _ H' M' _ ⟨p.toS.step, e3, fun m a z => ?_⟩
          rcases z with ⟨_, z⟩ | ⟨_, ⟨_, z⟩ | ⟨_, z⟩⟩
          · exact .inr (gm a (s1' a (s2 a z))).2
          · exact .inr (gm a (s1 a z)).2
          · exact p.toS.grow m a z
    · cases eg
  · cases eg
def parO3 (i j m : Nat) (l : LOE) : DS := fun ρ => match l ρ with
  | some ([x, y, z], ρ1) => if nb ρ1 i && nb ρ1 j && nb ρ1 m then some (.nx (((ρ1.set i (.w false x)).set j (.w false y)).set m (.w false z))) else none
  | _ => none
theorem nb_set2 {ρ : List W} {i j m : Nat} {o o2 : O} (h : nb ρ m = true) (hi : i ≠ m) (hj : j ≠ m) : ∀ o', ((ρ.set i (W.w false o)).set j (W.w false o2))[m]? ≠ some (.w true o') := fun o' z => by
  rw [List.getElem?_set_ne hj] at z
  exact nb_set h hi o' z
theorem tS_parO3 {K : PySem.W.Frag} {i j m : Nat} {l : LOE} (hij : i ≠ j) (him : i ≠ m) (hjm : j ≠ m) (E : Ends) (σ : L2.St) (H : Hp) (w : tS K (parO3 i j m l) E σ H) : tPar3 i j m (tLO K τ l) E σ H := by
  obtain ⟨B, M, F, ρ, r, er, eg, k⟩ := w
  unfold parO3 at eg
  split at eg
  · rename_i x y z ρ1 e1
    split at eg
    · rename_i hb
      cases eg
      obtain ⟨h12, h3⟩ := Bool.and_eq_true_iff.mp hb
      obtain ⟨h1, h2⟩ := Bool.and_eq_true_iff.mp h12
      refine ⟨B, M, F, ρ, _, ρ1, er, e1, fun vs H' M' F' G p r dj gm => ?_⟩
      cases r with
      | cons r1 r d1 s1 s1' =>
        cases r with
        | cons r2 r d2 s2 s2' =>
          cases r with
          | cons r3 r d3 s3 s3' =>
            cases r
            refine ⟨_, _, _, rfl, ?_⟩
            have e2 := p.er.set (nb_ne h1) r1 (fun m a z q => dj m a z (s1 a q)) fun a z => (gm a (s1 a z)).1
            have e3 := e2.set (nb_set h2 hij) r2 (fun m a z q => z.elim (fun z => d1 a z.2 (s2 a q)) fun z => dj m a z.2 (s1' a (s2 a q))) fun a z => (gm a (s1' a (s2 a z))).1
            have e4 := e3.set (nb_set2 h3 him hjm) r3 (fun m a z q => z.elim (fun z => d2 a z.2 (s3 a q)) fun z => z.2.elim (fun z => d1 a z.2 (s2' a (s3 a q))) fun z => dj m a z.2 (s1' a (s2' a (s3 a q)))) fun a z => (gm a (s1' a (s2' a (s3 a z)))).1
            refine k _ H' M' _ ⟨p.toS.step, e4, fun m a z => ?_⟩
            rcases z with ⟨_, z⟩ | ⟨_, ⟨_, z⟩ | ⟨_, ⟨_, z⟩ | ⟨_, z⟩⟩⟩
            · exact .inr (gm a (s1' a (s2' a (s3 a z)))).2
            · exact .inr (gm a (s1' a (s2 a z))).2
            · exact .inr (gm a (s1 a z)).2
            · exact p.toS.grow m a z
    · cases eg
  · cases eg
/-! ### targets that may be changed things, too -/
abbrev BS := D → List W → Option (List W)
abbrev BSs := List D → List W → Option (List W)
def tG (K : PySem.W.Frag) (b : BS) : TG := fun v σ H Q => ∃ B M F ρ d ρ', ER K B M F H σ ρ ∧ Rep K M H v d ∧ b d ρ = some ρ' ∧
  ∀ σ' H' M' F', PostS K B M F H M' F' H' σ' ρ' → Q σ' H'
def tGs (K : PySem.W.Frag) (b : BSs) : TGs := fun ws σ H Q => ∃ B M F ρ ds ρ', ER K B M F H σ ρ ∧ Reps K M H ws ds ∧ b ds ρ = some ρ' ∧
  ∀ σ' H' M' F', PostS K B M F H M' F' H' σ' ρ' → Q σ' H'
abbrev XG (X : Cx) (tg : Expr) (b : BS) : Prop := PG X tg (tG X.K b)
abbrev XGs (X : Cx) (tg : List Expr) (b : BSs) : Prop := PGs X tg (tGs X.K b)
def nmB (i : Nat) : BS := fun d ρ => if nb ρ i then some (ρ.set i (.w false (.sh d))) else none
theorem sg_name {i : Nat} {x : Str} (hN : X.N.Nodup) (hi : X.N[i]? = some x) (hx : Loc X.env.scope x)
    (hf : X.fn x = true ∨ X.env.scope.names.lookup x = some .local := by first | exact .inl rfl | exact .inr rfl | assumption) : XG X (.Name x pos) (nmB i) := imG (pg_name hN hi hx hf) fun v σ H Q ⟨B, M, F, ρ, d, ρ', er, r, eb, k⟩ => by
  unfold nmB at eb
  split at eb
  · rename_i hb
    cases eb
    exact k _ H M _ (.slots (er.setD (nb_ne hb) r) fun j a z => .inl ⟨j, upF_le z⟩)
  · cases eb
theorem sg_nil : XGs X [] bNil := imGs pgs_nil fun ws σ H Q ⟨B, M, F, ρ, ds, ρ', er, r, eb, k⟩ => by
  unfold bNil at eb
  cases ds with
  | nil =>
    cases eb
    cases r
    exact ⟨rfl, k σ H M F (.refl er)⟩
  | cons d r => cases eb
theorem sg_cons {b1 : BS} {bs : BSs} (h : XG X e b1) (h' : XGs X es bs)
    (hs : List.map (fun x => x.snd) (assignEach (e :: es) X.env) = assign e X.env :: List.map (fun x => x.snd) (assignEach es X.env) := by rfl) : XGs X (e :: es) (bCons b1 bs) := imGs (pgs_cons h h' hs) fun ws σ H Q ⟨B, M, F, ρ, ds, ρ', er, r, eb, k⟩ => by
  unfold bCons at eb
  cases r with
  | nil => cases eb
  | @cons v d ws ds r1 r2 =>
    obtain ⟨ρ1, e1, e2⟩ := Option.bind_eq_some_iff.mp eb
    exact ⟨_, _, rfl, B, M, F, ρ, d, ρ1, er, r1, e1, fun σ1 H1 M1 F1 p1 => ⟨B, M1, F1, ρ1, ds, ρ', p1.er, r2.tr (p1.tr er), e2, fun σ2 H2 M2 F2 p2 => k σ2 H2 M2 F2 (p1.trans er p2)⟩⟩
theorem sg_tup {k n : Nat} {bs : BSs} (hc : X.calm = true) (h : XGs X es bs) (hn : (assignEach es X.env).length = n := by rfl) (hst : (assignEach es X.env).findIdx? (·.1) = none := by rfl) : XG X (.Tuple es k pos) (bT n bs) :=
  imG (pg_tup (n := n) hc h hn hst) fun v σ H Q ⟨B, M, F, ρ, d, ρ', er, r, eb, kk⟩ => by
  unfold bT at eb
  cases d with
  | tup l =>
    cases r with
    | tup m e rs =>
      dsimp only at eb
      split at eb
      · rename_i hl
        exact ⟨_, _, rfl, .of e, rs.length.trans hl, B, M, F, ρ, l, ρ', er, rs, eb, kk⟩
      · cases eb
  | _ => cases eb
/-! ### into a list, into a dict -/
def kput {κ α : Type} [DecidableEq κ] (l : List (κ × α)) (k : κ) (d : α) : List (κ × α) :=
  if k ∈ l.map (·.1) then l.map (fun p => (p.1, if p.1 = k then d else p.2)) else l ++ [(k, d)]
theorem kput_map {κ : Type} [DecidableEq κ] {K : PySem.W.Frag} {M : Addr → Prop} {H : Hp} {k : κ} {v : V} {d : D} (r : Rep K M H v d) : ∀ {kvs : List (κ × V)} {l : List (κ × D)}, kvs.map (·.1) = l.map (·.1) → Reps K M H (kvs.map (·.2)) (l.map (·.2)) →
    (kvs.map fun kv => if kv.1 = k then (kv.1, v) else kv).map (·.1) = (l.map fun p => (p.1, if p.1 = k then d else p.2)).map (·.1) ∧ Reps K M H ((kvs.map fun kv => if kv.1 = k then (kv.1, v) else kv).map (·.2)) ((l.map fun p => (p.1, if p.1 = k then d else p.2)).map (·.2))
  | [], [], _, _ => ⟨rfl, .nil⟩
  | [], _ :: _, h, _ => nomatch h
  | _ :: _, [], h, _ => nomatch h
  | (k1, v1) :: kvs, (k2, d2) :: l, h, rs => by
    simp only [List.map_cons] at h rs ⊢
    obtain ⟨h1, h2⟩ := List.cons.inj h
    cases rs with
    | cons r1 r2 =>
      obtain ⟨q1, q2⟩ := kput_map r h2 r2
      try dsimp only at h1
      subst h1
      by_cases z : k1 = k
      · simp only [z, if_true]
        exact ⟨congrArg _ q1, .cons r q2⟩
      · simp only [z, if_false]
        exact ⟨congrArg _ q1, .cons r1 q2⟩
theorem kput_rep {κ : Type} [DecidableEq κ] {K : PySem.W.Frag} {M : Addr → Prop} {H : Hp} {k : κ} {v : V} {d : D} {kvs : List (κ × V)} {l : List (κ × D)} (hk : kvs.map (·.1) = l.map (·.1)) (rs : Reps K M H (kvs.map (·.2)) (l.map (·.2))) (r : Rep K M H v d) :
    (putK kvs k v).map (·.1) = (kput l k d).map (·.1) ∧ Reps K M H ((putK kvs k v).map (·.2)) ((kput l k d).map (·.2)) := by
  have e : ((kvs.any fun kv => decide (kv.1 = k)) = true) ↔ k ∈ l.map (·.1) := by
    rw [← hk, List.any_eq_true]
    simp only [decide_eq_true_eq, List.mem_map]
  unfold putK kput
  by_cases h : k ∈ l.map (·.1)
  · rw [if_pos (e.mpr h), if_pos h]
    exact kput_map r hk rs
  · rw [if_neg fun z => h (e.mp z), if_neg h]
    rw [List.map_append, List.map_append, List.map_append, List.map_append, hk]
    exact ⟨rfl, rs.append (.cons r .nil)⟩
def putO : O → D → D → Option O
  | .ol l, .int i, d => (ixN l.length i).map fun j => .ol (l.set j d)
  | .ok l, k, d => match keyD k with
    | some k => if small l.length then some (.ok (kput l k d)) else none
    | none => none
  | .ot l, .tup ks, d => match keysD ks with
    | some k => if small l.length then some (.ot (kput l k d)) else none
    | none => none
  | _, _, _ => none
def stB (π : Pth) (g : DE) : BS := fun d ρ => match pget π ρ with
  | some o => (match g ρ with
    | some (k, _) => (putO o k d).map fun o' => pput π o' ρ
    | none => none)
  | none => none
theorem set_any (hu : X.A.units + 1 < cLine) : PSet X fun o i v H Q => rSetL o i v H Q ∨ rSetD o i v H Q := by
  intro pins s σ H o i v ov iv u Q I ro ri rv h
  rcases h with h | h
  · exact set_list pins s σ H o i v ov iv u Q I ro ri rv h
  · exact set_dict hu pins s σ H o i v ov iv u Q I ro ri rv h
theorem sg_sub (hu : X.A.units + 1 < cLine) {g : DE} (ho : XP X a π) (hi : XD X b false g)
    (ha : ∀ v, assign (.Subscript a b pos) X.env v = (do
      let ov ← holding [v] (eval a X.env)
      let iv ← holding [v, ov] (eval b X.env)
      standAt pos
      holding [v, ov, iv] (setItem ov iv v)
      release [v, ov, iv] []) := by intro _; rfl) : XG X (.Subscript a b pos) (stB π g) := imG (pg_sub ho hi (set_any hu) ha) fun v σ H Q ⟨B, M, F, ρ, d, ρ', er, r, eb, k⟩ => by
  unfold stB at eb
  split at eb
  · rename_i o e1
    split at eb
    · rename_i kd ρ1 e2
      obtain ⟨o', e3, e4⟩ := Option.map_eq_some_iff.mp eb
      cases e4
      unfold putO at e3
      split at e3
      · obtain ⟨j, e5, e6⟩ := Option.map_eq_some_iff.mp e3
        cases e6
        obtain ⟨q, xs, h1, _, _, _⟩ := ol_write er e1
        refine ⟨.ref q, h1, B, M, F, ρ, _, ρ1, er, e2, fun y H1 M1 F1 p1 ry => ?_⟩
        obtain ⟨s1, er1⟩ := p1.clean er rfl
        obtain ⟨q', xs', h1', h2', h3', h4'⟩ := ol_write er1 e1
        cases PAt.inj h1' (h1.keep s1)
        cases ry
        have p2 : Post false X.K B M F H σ ρ M1 F H1 ρ := ⟨p1.step, er1, fun i a z => .inl z, fun _ => rfl⟩
        exact .inl ⟨q, xs', _, j, rfl, rfl, h2', by rw [h3'.length]; exact e5, k _ _ _ _ (p2.toS.trans er (h4' _ _ (h3'.set j (r.tr (p1.tr er)))))⟩
      · split at e3
        · rename_i k' e5
          split at e3
          · rename_i hs
            cases e3
            obtain ⟨q, xs, h1, _, _, _⟩ := ok_write er e1
            refine ⟨.ref q, h1, B, M, F, ρ, _, ρ1, er, e2, fun y H1 M1 F1 p1 ry => ?_⟩
            obtain ⟨s1, er1⟩ := p1.clean er rfl
            obtain ⟨q', xs', h1', h2', hk', h3', h4'⟩ := ok_write er1 e1
            cases PAt.inj h1' (h1.keep s1)
            have ek := ry.key e5
            have p2 : Post false X.K B M F H σ ρ M1 F H1 ρ := ⟨p1.step, er1, fun i a z => .inl z, fun _ => rfl⟩
            obtain ⟨w1, w2⟩ := kput_rep (k := k') hk' h3' (r.tr (p1.tr er))
            refine .inr ⟨q, _, rfl, .inl ⟨xs', k', h2', ek, by rw [kvs_len hk']; exact small_lt hs, rfl⟩, k _ _ _ _ (p2.toS.trans er (h4' _ _ w1 w2))⟩
          · cases e3
        · cases e3
      · split at e3
        · rename_i k' e5
          split at e3
          · rename_i hs
            cases e3
            obtain ⟨q, xs, h1, _, _, _⟩ := ot_write er e1
            refine ⟨.ref q, h1, B, M, F, ρ, _, ρ1, er, e2, fun y H1 M1 F1 p1 ry => ?_⟩
            obtain ⟨s1, er1⟩ := p1.clean er rfl
            obtain ⟨q', xs', h1', h2', hk', h3', h4'⟩ := ot_write er1 e1
            cases PAt.inj h1' (h1.keep s1)
            have p2 : Post false X.K B M F H σ ρ M1 F H1 ρ := ⟨p1.step, er1, fun i a z => .inl z, fun _ => rfl⟩
            obtain ⟨w1, w2⟩ := kput_rep (k := k') hk' h3' (r.tr (p1.tr er))
            cases ry with
            | @tup b xs2 _ mb hb rb =>
              refine .inr ⟨q, _, rfl, .inr ⟨xs', k', b, h2', rfl, by rw [hb, rb.keys e5], by rw [kvs_len hk']; exact small_lt hs, rfl⟩, k _ _ _ _ (p2.toS.trans er (h4' _ _ w1 w2))⟩
          · cases e3
        · cases e3
      · cases e3
    · cases eb
  · cases eb
/-- target = value -/
def asG (g : DE) (b : BS) : DS := fun ρ => match g ρ with
  | some (d, ρ1) => (b d ρ1).map .nx
  | none => none
theorem s_asG {g : DE} {bs : BS} (h : XD X e τ g) (hg : XG X a bs) (hs : swapsWithSole [a] e pos.line X.env = pure false := by rfl) (hw : swappedStores [a] e X.env = pure none := by rfl)
    (h1 : (assignEach [a] X.env).map (·.2) = [assign a X.env] := by rfl) : XS X (.Assign [a] e pos) (asG g bs) := imS (ps_asg h hg hs hw h1) fun E σ H ⟨B, M, F, ρ, r, er, eg, k⟩ => by
  unfold asG at eg
  split at eg
  · rename_i d ρ1 e1
    obtain ⟨ρ2, e3, e4⟩ := Option.map_eq_some_iff.mp eg
    cases e4
    exact ⟨B, M, F, ρ, d, ρ1, er, e1, fun v H1 M1 F1 p1 r1 => ⟨B, M1, F1, ρ1, d, ρ2, p1.er, r1, e3, fun σ2 H2 M2 F2 p2 => k σ2 H2 M2 F2 (p1.toS.trans er p2)⟩⟩
  · cases eg
end
end Dl
/-! text DL18 -/
set_option Elab.async false
set_option linter.all false
set_option maxRecDepth 100000
set_option maxHeartbeats 1000000
/-! The data layer: is None, chains, slices, displays, texts, places in lists. -/
namespace Dl
open PySem PySem.Spec PyProof.Rows L2

section
variable {K : PySem.W.Frag} {M : Addr → Prop} {H : Hp}
/-! ### is None -/
def isNon : D → Bool
  | .non => true
  | _ => false
theorem non_rep {v : V} {d : D} (r : Rep K M H v d) : decide (v = .non) = isNon d := by
  cases r <;> rfl
def isD (neg : Bool) : D → D → Option D := fun x y => match y with
  | .non => some (.bl (if neg then !isNon x else isNon x))
  | _ => none
theorem rd_is : RD K (fun x y H Q => y = .non ∧ Q (.bl (decide (x = .non))) H) (isD false) := fun M H x y dx dy d Q m rx ry e k => by
  unfold isD at e
  split at e
  · cases e; cases ry
    rw [non_rep rx]
    exact ⟨rfl, k _ H .refl (.bl _)⟩
  · cases e
theorem rd_isNot : RD K (fun x y H Q => y = .non ∧ Q (.bl (!decide (x = .non))) H) (isD true) := fun M H x y dx dy d Q m rx ry e k => by
  unfold isD at e
  split at e
  · cases e; cases ry
    rw [non_rep rx]
    exact ⟨rfl, k _ H .refl (.bl _)⟩
  · cases e
end
/-! ### a op b op c -/
section
variable {X : Cx} {e a b c o : Expr} {es : List Expr} {τ τ' τ'' : Bool} {p pos apos p2 : Pos} {x f : Str} {i : Nat} {π : Pth}
/-- the third without a trace, so that where it is not come to all is the same -/
def chF (f f' : D → D → Option D) (ga gb gc : DE) : DE := fun ρ => match ga ρ with
  | some (x, ρ1) => (match gb ρ1 with
    | some (y, ρ2) => (match f x y with
      | some (.bl true) => (match gc ρ2 with
        | some (z, ρ3) => (f' y z).map fun d => (d, ρ3)
        | none => none)
      | some (.bl false) => some (.bl false, ρ2)
      | _ => none)
    | none => none)
  | none => none
theorem tD_ch {K : PySem.W.Frag} {r r' : R2} {f f' : D → D → Option D} {ga gb gc : DE} (h : RD K r f) (h' : RD K r' f') (σ : L2.St) (H : Hp) (Q : VK) (w : tD K ((τ || τ') || τ'') (chF f f' ga gb gc) σ H Q) : tChain r r' (tD K τ ga) (tD K τ' gb) (tD K τ'' gc) σ H Q := by
  obtain ⟨B, M, F, ρ, d, ρ', er, eg, k⟩ := w
  unfold chF at eg
  split at eg
  · rename_i x ρ1 e1
    split at eg
    · rename_i y ρ2 e2
      refine ⟨B, M, F, ρ, x, ρ1, er, e1, fun vx H1 M1 F1 p1 r1 => ⟨B, M1, F1, ρ1, y, ρ2, p1.er, e2, fun vy H2 M2 F2 p2 r2 => ?_⟩⟩
      have r1' := r1.tr (p2.tr p1.er)
      split at eg
      · rename_i e3
        split at eg
        · rename_i z ρ3 e4
          obtain ⟨d', e5, e6⟩ := Option.map_eq_some_iff.mp eg
          cases e6
          refine h M2 H2 vx vy x y _ _ p2.er.mtr r1' r2 e3 fun v H3 s3 r3 => ?_
          cases r3
          refine ⟨true, rfl, ?_⟩
          rw [if_pos rfl]
          have p3 := Post.keep false p2.er s3 (mtr' s3 p2.er.mtr)
          refine ⟨B, M2, F2, ρ2, z, _, p3.er, e4, fun vz H4 M4 F4 p4 r4 => ?_⟩
          have r2' := (r2.tr (p3.tr p2.er)).tr (p4.tr p3.er)
          refine h' M4 H4 vy vz y z d Q p4.er.mtr r2' r4 e5 fun v H5 s5 r5 => ?_
          have p5 := Post.keep false p4.er s5 (mtr' s5 p4.er.mtr)
          have q := Post.trans er (Post.trans er (Post.trans er (Post.trans er p1 p2) p3) p4) p5
          simp only [Bool.or_false] at q
          exact k v H5 M4 F4 q r5
        · cases eg
      · rename_i e3
        cases eg
        refine h M2 H2 vx vy x y _ _ p2.er.mtr r1' r2 e3 fun v H3 s3 r3 => ?_
        cases r3
        refine ⟨false, rfl, ?_⟩
        rw [if_neg Bool.false_ne_true]
        have p3 := Post.keep τ'' p2.er s3 (mtr' s3 p2.er.mtr)
        exact k _ H3 M2 F2 (Post.trans er (Post.trans er p1 p2) p3) (.bl false)
      · cases eg
    · cases eg
  · cases eg
theorem x_ch {op op' : CmpOp} {r r' : R2} {f f' : D → D → Option D} {ga gb gc : DE} (ho : OpR X (compareOp op) r) (ho' : OpR X (compareOp op') r') (h : RD X.K r f) (h' : RD X.K r' f') (ha : XD X a τ ga) (hb : XD X b τ' gb) (hc : XD X c τ'' gc)
    (hm : lastMarks [op, op'] [b, c] = false := by with_unfolding_all rfl) : XD X (.Compare a [op, op'] [b, c] pos) ((τ || τ') || τ'') (chF f f' ga gb gc) := imE (pe_chain ho ho' ha hb hc hm) fun σ H Q w => tD_ch h h' σ H Q w
theorem t_ch {op op' : CmpOp} {r r' : R2} {f f' : D → D → Option D} {ga gb gc : DE} (ho : OpR X (compareOp op) r) (ho' : OpR X (compareOp op') r') (h : RD X.K r f) (h' : RD X.K r' f') (ha : XD X a τ ga) (hb : XD X b τ' gb) (hc : XD X c τ'' gc)
    (hm : lastMarks [op, op'] [b, c] = false := by with_unfolding_all rfl) : XT X (.Compare a [op, op'] [b, c] pos) ((τ || τ') || τ'') (bE (chF f f' ga gb gc)) := imT (pt_chain ho ho' ha hb hc hm) fun σ H Q w => tTest_of (fun σ H Q w => tD_ch h h' σ H Q w) σ H Q w
/-! ### slices -/
abbrev PaE := List W → Option (Option Int × List W)
def tPO (K : PySem.W.Frag) (τ : Bool) (g : PaE) : TO := fun σ H Q => ∃ B M F ρ o ρ', ER K B M F H σ ρ ∧ g ρ = some (o, ρ') ∧ ∀ H' M' F', Post τ K B M F H σ ρ M' F' H' ρ' → Q o H'
abbrev XPO (X : Cx) (e : Option Expr) (τ : Bool) (g : PaE) : Prop := PO X e (tPO X.K τ g)
theorem imPO {e : Option Expr} {t t' : TO} (h : PO X e t) (q : ∀ σ H Q, t' σ H Q → t σ H Q) : PO X e t' := ⟨fun pins s σ H Q I z => h.run pins s σ H Q I (q σ H Q z)⟩
def noPa : PaE := fun ρ => some (none, ρ)
def atPa (g : DE) : PaE := fun ρ => match g ρ with
  | some (.int i, ρ1) => some (some i, ρ1)
  | _ => none
theorem pa_no : XPO X none false noPa := imPO po_none fun σ H Q ⟨B, M, F, ρ, d, ρ', er, eg, k⟩ => by
  cases eg
  exact k H M F (.refl _ er)
theorem pa_at {g : DE} (h : XD X e τ g) : XPO X (some e) τ (atPa g) := imPO (po_some h) fun σ H Q ⟨B, M, F, ρ, d, ρ', er, eg, k⟩ => by
  unfold atPa at eg
  split at eg
  · rename_i j ρ1 e1
    cases eg
    exact ⟨B, M, F, ρ, _, _, er, e1, fun v H1 M1 F1 p1 r1 => by cases r1; exact ⟨_, rfl, k H1 M1 F1 p1⟩⟩
  · cases eg
def cutD (l : List D) (lo hi : Option Int) : List D := (l.drop (HT.sIx l.length 0 lo)).take (HT.sIx l.length l.length hi - HT.sIx l.length 0 lo)
theorem cut_rep {K : PySem.W.Frag} {M : Addr → Prop} {H : Hp} {vs : List V} {ds : List D} {lo hi : Option Int} (r : Reps K M H vs ds) : Reps K M H (cutV vs lo hi) (cutD ds lo hi) := by
  unfold cutV cutD
  rw [r.length]
  exact (r.drop _).take _
def slO : D → Option Int → Option Int → Option O
  | .lst l, lo, hi => some (.ol (cutD l lo hi))
  | .fl l, lo, hi => some (.ol (cutD l lo hi))
  | .tup l, lo, hi => some (.sh (.tup (cutD l lo hi)))
  | .str z, lo, hi => if small z.length then some (.sh (.str (cutS z lo hi))) else none
  | _, _, _ => none
def slE (g : DE) (pl ph : PaE) : OE := fun ρ => match g ρ with
  | some (d, ρ1) => (match pl ρ1 with
    | some (lo, ρ2) => (match ph ρ2 with
      | some (hi, ρ3) => (slO d lo hi).map fun o => (o, ρ3)
      | none => none)
    | none => none)
  | none => none
theorem cut_all {l : List D} {lo hi : Option Int} (h : HT.sIx l.length 0 lo = 0 ∧ HT.sIx l.length l.length hi = l.length) : cutD l lo hi = l := by
  unfold cutD
  rw [h.1, h.2]
  simp
theorem x_sl {g : DE} {pl ph : PaE} {lo hi : Option Expr} (he : XD X e τ g) (hl : XPO X lo τ' pl) (hh : XPO X hi τ'' ph) : XO X (.Subscript e (.Slice lo hi none p2) pos) ((τ || τ') || τ'') (slE g pl ph) :=
  imE (orPE (pe_slice sl_list he hl hh) (orPE (pe_slice sl_tupA he hl hh) (pe_slice sl_str he hl hh))) fun σ H Q ⟨B, M, F, ρ, o, ρ', er, eg, k⟩ => by
    unfold slE at eg
    split at eg
    · rename_i d ρ1 e1
      split at eg
      · rename_i lo ρ2 e2
        split at eg
        · rename_i hi ρ3 e3
          obtain ⟨o', e4, e5⟩ := Option.map_eq_some_iff.mp eg
          cases e5
          have key : ∀ R : V → Option Int → Option Int → Hp → VK → Prop, (∀ v H3 M3 F3, Post ((τ || τ') || τ'') X.K B M F H σ ρ M3 F3 H3 ρ' → Rep X.K M3 H3 v d → R v lo hi H3 Q) → tSl R (tD X.K τ g) (tPO X.K τ' pl) (tPO X.K τ'' ph) σ H Q := fun R hR =>
            ⟨B, M, F, ρ, d, ρ1, er, e1, fun v H1 M1 F1 p1 r1 => ⟨B, M1, F1, ρ1, lo, ρ2, p1.er, e2, fun H2 M2 F2 p2 => ⟨B, M2, F2, ρ2, hi, _, p2.er, e3, fun H3 M3 F3 p3 =>
              hR v H3 M3 F3 (Post.trans er (Post.trans er p1 p2) p3) ((r1.tr (p2.tr p1.er)).tr (p3.tr p2.er))⟩⟩⟩
          -- a new object at the end
          have fin : ∀ {τ0 : Bool} {v : V} {H3 H4 : Hp} {M3 M4 : Addr → Prop} {F3 : Nat → Addr → Prop} {G : Addr → Prop}, Post τ0 X.K B M F H σ ρ M3 F3 H3 ρ' → τ0 = ((τ || τ') || τ'') → Step NoF M3 H3 M4 H4 → Mtr M4 H4 → Own X.K M4 H4 v o G → (∀ a, G a → M4 a ∧ H3 a = none) → Q v H4 := by
            intro τ0 v H3 H4 M3 M4 F3 G p3 e0 s mt ow gm
            subst e0
            have pk := Post.trans er p3 (Post.keep false p3.er s mt)
            rw [Bool.or_false] at pk
            exact k v H4 M4 F3 G pk ow (fun i a z q => p3.er.trk z (gm a q).2) fun a z => ⟨(gm a z).1, p3.step.fresh (gm a z).2⟩
          unfold slO at e4
          split at e4
          · cases e4
            refine .inl (key _ fun v H3 M3 F3 p3 r3 => ?_)
            cases r3 with
            | lst ma ha rs => exact ⟨_, _, rfl, .of ha, fun q hq => newOl p3.er.mtr hq (cut_rep rs) fun v H4 M4 G s mt ow gm => fin p3 rfl s mt ow gm⟩
          · cases e4
            refine .inl (key _ fun v H3 M3 F3 p3 r3 => ?_)
            cases r3 with
            | fl ha rs => exact ⟨_, _, rfl, fl_sq ha, fun q hq => newOl p3.er.mtr hq (cut_rep rs) fun v H4 M4 G s mt ow gm => fin p3 rfl s mt ow gm⟩
          · cases e4
            refine .inr (.inl (key _ fun v H3 M3 F3 p3 r3 => ?_))
            cases r3 with
            | @tup q xs la ma ha rs =>
              refine ⟨q, xs, rfl, .of ha, fun w => ?_, fun _ q hq => ?_⟩
              · rw [rs.length] at w
                refine fin p3 rfl .refl p3.er.mtr (.sh (F := NoF) ?_) fun _ z => z.elim
                rw [cut_all w]
                exact .tup ma ha rs
              · obtain ⟨s, r⟩ := newTup p3.er.mtr hq (cut_rep (lo := lo) (hi := hi) rs)
                exact fin p3 rfl s (mtr' s p3.er.mtr) (.sh (F := NoF) r) fun _ z => z.elim
          · split at e4
            · rename_i hs
              cases e4
              refine .inr (.inr (key _ fun v H3 M3 F3 p3 r3 => ?_))
              cases r3
              exact ⟨_, rfl, small_le hs, fin p3 rfl .refl p3.er.mtr (.sh (F := NoF) (.str _)) fun _ z => z.elim⟩
            · cases e4
          · cases e4
        · cases eg
      · cases eg
    · cases eg
/-! ### xs[::-1] of an owned list -/
def revP (π : Pth) : OE := fun ρ => match pget π ρ with
  | some (.ol l) => some (.ol l.reverse, ρ)
  | _ => none
theorem x_revP {k : Nat} {p1 p3 : Pos} (h : XP X e π) : XO X (.Subscript e (.Slice none none (some (.UnaryOp .USub (.Constant (.int 1) k p1) p2)) p3) pos) false (revP π) := imE (pe_revL h) fun σ H Q ⟨B, M, F, ρ, o, ρ', er, eg, kk⟩ => by
  unfold revP at eg
  split at eg
  · rename_i l e1
    cases eg
    obtain ⟨q, xs, h1, ha, rs, _⟩ := ol_write er e1
    refine ⟨.ref q, h1, q, xs, rfl, .of ha, fun p hp => newOl er.mtr hp rs.reverse fun v H4 M4 G s mt ow gm => ?_⟩
    exact kk v H4 M4 F G (Post.keep false er s mt) ow (fun i a z q => er.trk z (gm a q).2) gm
  · cases eg
/-! ### {}; [*xs, y]; (x, *ys) -/
theorem x_newK : XO X (.Dict [] [] pos) false (fun ρ => some (.ok [], ρ)) := imE pe_dnewK fun σ H Q ⟨B, M, F, ρ, o, ρ', er, eg, k⟩ => by
  cases eg
  intro p hp
  have s : Step NoF M H (fun a => M a ∨ a = p) (upd H p (.dK [])) := .laidM hp
  have mt : Mtr (fun a => M a ∨ a = p) (upd H p (.dK [])) := fun a z => z.elim (fun q => s.trk a (er.mtr a q)) fun q => by rw [q, upd_same]; exact fun z => nomatch z
  exact k _ _ _ F (fun a => a = p) (Post.keep false er s mt) (.ok rfl upd_same rfl .nil) (fun i a z q => er.trk z (by rw [q]; exact hp)) fun a z => ⟨.inr z, by rw [z]; exact hp⟩
theorem x_newT : XO X (.Dict [] [] pos) false (fun ρ => some (.ot [], ρ)) := imE pe_dnewT fun σ H Q ⟨B, M, F, ρ, o, ρ', er, eg, k⟩ => by
  cases eg
  intro p hp
  have s : Step NoF M H (fun a => M a ∨ a = p) (upd H p (.dT [])) := .laidM hp
  have mt : Mtr (fun a => M a ∨ a = p) (upd H p (.dT [])) := fun a z => z.elim (fun q => s.trk a (er.mtr a q)) fun q => by rw [q, upd_same]; exact fun z => nomatch z
  exact k _ _ _ F (fun a => a = p) (Post.keep false er s mt) (.ot rfl upd_same rfl .nil) (fun i a z q => er.trk z (by rw [q]; exact hp)) fun a z => ⟨.inr z, by rw [z]; exact hp⟩
def starL (g : DE) (l : LE) : LE := fun ρ => match g ρ with
  | some (.tup xs, ρ1) => (l ρ1).map fun p => (xs ++ p.1, p.2)
  | some (.lst xs, ρ1) => (l ρ1).map fun p => (xs ++ p.1, p.2)
  | _ => none
theorem l_star {g : DE} {l : LE} (ha : XD X e τ g) (hr : XL X es τ' l) (hs : starEach (.Starred e p :: es) X.env = (true, eval e X.env) :: starEach es X.env := by rfl) : XL X (.Starred e p :: es) (τ || τ') (starL g l) := imA (StX.pa_star ha hr hs) fun σ H Q ⟨B, M, F, ρ, d, ρ', er, eg, k⟩ => by
  unfold starL at eg
  split at eg
  · rename_i xs ρ1 e1
    obtain ⟨⟨ds, ρ2⟩, e3, e4⟩ := Option.map_eq_some_iff.mp eg
    cases e4
    refine ⟨B, M, F, ρ, _, ρ1, er, e1, fun v1 H1 M1 F1 p1 r1 => ?_⟩
    cases r1 with
    | tup m ha rs => exact ⟨_, _, rfl, .inl (.of ha), B, M1, F1, ρ1, ds, _, p1.er, e3, fun vs H2 M2 F2 p2 r2 => k _ H2 M2 F2 (p1.trans er p2) ((rs.tr (p2.tr p1.er)).append r2)⟩
  · rename_i xs ρ1 e1
    obtain ⟨⟨ds, ρ2⟩, e3, e4⟩ := Option.map_eq_some_iff.mp eg
    cases e4
    refine ⟨B, M, F, ρ, _, ρ1, er, e1, fun v1 H1 M1 F1 p1 r1 => ?_⟩
    cases r1 with
    | lst m ha rs => exact ⟨_, _, rfl, .inr (.of ha), B, M1, F1, ρ1, ds, _, p1.er, e3, fun vs H2 M2 F2 p2 r2 => k _ H2 M2 F2 (p1.trans er p2) ((rs.tr (p2.tr p1.er)).append r2)⟩
  · cases eg
/-! ### a method of a text, of one argument -/
def m1E (f : D → D → Option O) (g g' : DE) : OE := fun ρ => match g ρ with
  | some (.str z, ρ1) => (match g' ρ1 with
    | some (y, ρ2) => (f (.str z) y).map fun o => (o, ρ2)
    | none => none)
  | _ => none
def M1 (K : PySem.W.Frag) (r : V → List V → Hp → VK → Prop) (f : D → D → Option O) : Prop := ∀ (M : Addr → Prop) (H : Hp) (x y : V) (dx dy : D) (o : O) (Q : VK), Mtr M H → Rep K M H x dx → Rep K M H y dy → f dx dy = some o →
  (∀ v H' M' G, Step NoF M H M' H' → Mtr M' H' → Own K M' H' v o G → (∀ a, G a → M' a ∧ H a = none) → Q v H') → r x [y] H Q
theorem cvM1 {ex : Expr} {r : V → List V → Hp → VK → Prop} {f : D → D → Option O} {g g' : DE} (hr : M1 X.K r f) (h : PE X ex (tM1 r (tD X.K τ g) (tD X.K τ' g'))) : XO X ex (τ || τ') (m1E f g g') := imE h fun σ H Q ⟨B, M, F, ρ, o, ρ', er, eg, k⟩ => by
  unfold m1E at eg
  split at eg
  · rename_i z ρ1 e1
    split at eg
    · rename_i y ρ2 e2
      obtain ⟨o', e3, e4⟩ := Option.map_eq_some_iff.mp eg
      cases e4
      refine ⟨B, M, F, ρ, _, ρ1, er, e1, fun v H1 M1 F1 p1 r1 => ?_⟩
      cases r1
      refine ⟨⟨_, rfl⟩, B, M1, F1, ρ1, y, _, p1.er, e2, fun vy H2 M2 F2 p2 r2 => ?_⟩
      refine hr M2 H2 _ _ _ _ o Q p2.er.mtr (.str z) r2 e3 fun v H' M' G s mt ow gm => ?_
      have q := Post.trans er p1 p2
      have pk := Post.trans er q (Post.keep false p2.er s mt)
      rw [Bool.or_false] at pk
      exact k v H' M' F2 G pk ow (fun i a z q => p2.er.trk z (gm a q).2) fun a z => ⟨(gm a z).1, q.step.fresh (gm a z).2⟩
    · cases eg
  · cases eg
def splitD : D → D → Option O
  | .str a, .str b => if !(b.length == 0) && small (a.length + 2) then some (.ol ((Txt.split a b).map .str)) else none
  | _, _ => none
theorem reps_strs {K : PySem.W.Frag} {M : Addr → Prop} {H : Hp} : ∀ l : List Str, Reps K M H (l.map V.str) (l.map D.str)
  | [] => .nil
  | x :: r => .cons (.str x) (reps_strs r)
theorem m1_split {K : PySem.W.Frag} : M1 K (fun x xs H Q => ∃ a b, x = .str a ∧ xs = [.str b] ∧ (b.length == 0) = false ∧ a.length + 2 ≤ sizeLine ∧ rNewStrs (Txt.split a b) H Q) splitD := fun M H x y dx dy o Q m rx ry e k => by
  unfold splitD at e
  split at e
  · split at e
    · rename_i hs
      cases e; cases rx; cases ry
      obtain ⟨h1, h2⟩ := Bool.and_eq_true_iff.mp hs
      exact ⟨_, _, rfl, rfl, by simpa using h1, small_le h2, fun p hp => newOl m hp (reps_strs _) k⟩
    · cases e
  · cases e
def strsD : List D → Option (List Str)
  | [] => some []
  | .str x :: r => (strsD r).map (x :: ·)
  | _ :: _ => none
theorem strs_rep {K : PySem.W.Frag} {M : Addr → Prop} {H : Hp} : ∀ {vs : List V} {ds : List D} {l : List Str}, Reps K M H vs ds → strsD ds = some l → vs = l.map V.str
  | _, _, _, .nil, h => by cases h; rfl
  | _, _, _, .cons (d := d) a b, h => by
    unfold strsD at h
    split at h
    · rename_i q; cases q
    · rename_i q
      cases q
      obtain ⟨l', h1, h2⟩ := Option.map_eq_some_iff.mp h
      subst h2
      cases a
      rw [strs_rep b h1]; rfl
    · cases h
def joinD : D → D → Option O
  | .str a, .lst l => match strsD l with
    | some ys => if small ((ys.map (·.length)).sum + ys.length * a.length) then some (.sh (.str (Txt.join a ys))) else none
    | none => none
  | .str a, .tup l => match strsD l with
    | some ys => if small ((ys.map (·.length)).sum + ys.length * a.length) then some (.sh (.str (Txt.join a ys))) else none
    | none => none
  | _, _ => none
theorem m1_join {K : PySem.W.Frag} : M1 K (fun x xs H Q => ∃ a p, ∃ ys : List Str, x = .str a ∧ xs = [.ref p] ∧ (SqL K H p (ys.map V.str) ∨ SqT K H p (ys.map V.str)) ∧ (ys.map (·.length)).sum + ys.length * a.length ≤ 16777216 ∧ Q (.str (Txt.join a ys)) H) joinD := fun M H x y dx dy o Q m rx ry e k => by
  have fin : ∀ z, o = .sh (.str z) → Q (.str z) H := fun z ez => k _ H M NoF .refl m (by rw [ez]; exact .sh (.str z)) fun _ z => z.elim
  have le : ∀ n : Nat, small n = true → n ≤ 16777216 := fun n h => Nat.le_trans (of_decide_eq_true h) (by decide)
  unfold joinD at e
  split at e
  · split at e
    · rename_i ys e1
      split at e
      · rename_i hs
        cases e; cases rx
        cases ry with
        | lst ma ha rs =>
          have ev := strs_rep rs e1
          subst ev
          exact ⟨_, _, ys, rfl, rfl, .inl (.of ha), le _ hs, fin _ rfl⟩
      · cases e
    · cases e
  · split at e
    · rename_i ys e1
      split at e
      · rename_i hs
        cases e; cases rx
        cases ry with
        | tup ma ha rs =>
          have ev := strs_rep rs e1
          subst ev
          exact ⟨_, _, ys, rfl, rfl, .inr (.of ha), le _ hs, fin _ rfl⟩
      · cases e
    · cases e
  · cases e
/-! ### the place of one in a list -/
def findK (k : D) : List D → Option Nat
  | [] => none
  | d :: r => if inSeq.eqF d k then some 0 else (findK k r).map (· + 1)
def indexD : D → List D → Option D
  | .lst l, [k] => if inSeq.flD k && l.all inSeq.flD then (findK k l).map fun j => .int (j : Nat) else none
  | _, _ => none
theorem findK_at {K : PySem.W.Frag} {M : Addr → Prop} {H : Hp} {y : V} {k : D} (ry : Rep K M H y k) (fk : inSeq.flD k = true) : ∀ {vs : List V} {ds : List D} {j : Nat}, Reps K M H vs ds → ds.all inSeq.flD = true → findK k ds = some j →
    ∃ z, vs[j]? = some z ∧ L2.eqV z y = true ∧ ∀ (m : Nat) (z' : V), m < j → vs[m]? = some z' → L2.eqV z' y = false
  | _, _, _, .nil, _, h => nomatch h
  | _, _, j, .cons (v := v) (d := d) a b, f, h => by
    obtain ⟨f1, f2⟩ := Bool.and_eq_true_iff.mp f
    have q := eqF_rep a ry f1 fk
    unfold findK at h
    split at h
    · rename_i e
      cases h
      exact ⟨v, rfl, by rw [q]; exact e, fun m z' hm => absurd hm (Nat.not_lt_zero m)⟩
    · rename_i e
      obtain ⟨j', h1, h2⟩ := Option.map_eq_some_iff.mp h
      subst h2
      obtain ⟨z, z1, z2, z3⟩ := findK_at ry fk b f2 h1
      refine ⟨z, z1, z2, fun m z' hm hz => ?_⟩
      cases m with
      | zero =>
        cases hz
        rw [q]
        exact Bool.eq_false_iff.mpr e
      | succ m => exact z3 m z' (by omega) hz
def bmE (f : D → List D → Option D) (g : DE) (l : LE) : DE := fun ρ => match g ρ with
  | some (.lst d, ρ1) => (match l ρ1 with
    | some (ds, ρ2) => (f (.lst d) ds).map fun d => (d, ρ2)
    | none => none)
  | _ => none
theorem cvIndex {ex : Expr} {g : DE} {l : LE} (h : PE X ex (tBM X.K "list" (rIndex X.K) (tD X.K τ g) (tL X.K τ' l))) : XD X ex (τ || τ') (bmE indexD g l) := imE h fun σ H Q ⟨B, M, F, ρ, o, ρ', er, eg, k⟩ => by
  unfold bmE at eg
  split at eg
  · rename_i d ρ1 e1
    split at eg
    · rename_i ds ρ2 e2
      obtain ⟨d', e3, e4⟩ := Option.map_eq_some_iff.mp eg
      cases e4
      refine ⟨B, M, F, ρ, _, ρ1, er, e1, fun v H1 M1 F1 p1 r1 => ?_⟩
      cases r1 with
      | @lst q xs _ ma ha rs =>
        refine ⟨.inl ⟨rfl, xs, .of ha⟩, B, M1, F1, ρ1, ds, _, p1.er, e2, fun vs H2 M2 F2 p2 r2 => ?_⟩
        unfold indexD at e3
        split at e3
        · rename_i ka el
          cases el
          split at e3
          · rename_i hs
            obtain ⟨f1, f2⟩ := Bool.and_eq_true_iff.mp hs
            obtain ⟨j, e5, e6⟩ := Option.map_eq_some_iff.mp e3
            subst e6
            cases r2 with
            | cons r2 r3 =>
              cases r3
              have rs2 := rs.tr (p2.tr p1.er)
              obtain ⟨z, z1, z2, z3⟩ := findK_at r2 f1 rs2 f2 e5
              have ha2 := (p2.tr p1.er).lst q xs ma ha
              exact ⟨q, xs, _, j, z, rfl, rfl, .of ha2, fl_rep r2 f1, (any_rep r2 f1 rs2 f2).1, z1, z2, z3, k _ H2 M2 F2 (Post.trans er p1 p2) (.int _)⟩
          · cases e3
        · cases e3
    · cases eg
  · cases eg
end
end Dl
/-! text DL19 -/
set_option Elab.async false
set_option linter.all false
set_option maxRecDepth 100000
set_option maxHeartbeats 1000000
/-! The data layer: the keys of a dict, listed, walked. -/
namespace Dl
open PySem PySem.Spec PyProof.Rows L2

def kD : Key → D
  | .inl i => .int i
  | .inr x => .str x
def keysO : O → Option (List D)
  | .sh (.dk l) => some (l.map fun p => kD p.1)
  | .sh (.dt l) => some (l.map fun p => .tup (p.1.map kD))
  | _ => none
section
variable {K : PySem.W.Frag} {M : Addr → Prop} {H : Hp} {d : Addr} {ob : Obj}
theorem kD_rep (k : Key) : Rep K M H (kV k) (kD k) := by
  cases k with
  | inl i => exact .int i
  | inr x => exact .str x
theorem kDs_rep : ∀ ks : List Key, Reps K M H (ks.map kV) (ks.map kD)
  | [] => .nil
  | k :: r => .cons (kD_rep k) (kDs_rep r)
theorem nfStep {F M' : Addr → Prop} {H' : Hp} {o : HO} (fm : ∀ a, F a → M a ∨ H a = none) (s : Step F M H M' H') (m : ¬ M d) (h : H d = some o) : H' d = some o :=
  s.kept d o h fun z => (fm d z).elim m fun q => by rw [q] at h; cases h
theorem wk_keys {kvs : List (Key × V)} {l : List (Key × D)} (m : ¬ M d) (h : H d = some (.frz ob (.dK kvs))) (hk : kvs.map (·.1) = l.map (·.1)) : Wk K M H (Itk d ob kvs) (l.map fun p => kD p.1) := by
  have hl : kvs.length = l.length := by have := congrArg List.length hk; simpa using this
  refine ⟨fun H => H d = some (.frz ob (.dK kvs)), _, by rw [List.length_map, ← hl]; exact walk_keys, fun F M1 H1 fm s mt => ⟨nfStep fm s m h, fun i x H2 hi y => ?_⟩⟩
  obtain ⟨rfl, k, v, e1, rfl⟩ := y
  refine ⟨.refl, kD k, ?_, kD_rep k⟩
  have e2 : (kvs.map (·.1))[i]? = some k := by rw [List.getElem?_map, e1]; rfl
  rw [hk, List.getElem?_map] at e2
  obtain ⟨p, q1, q2⟩ := Option.map_eq_some_iff.mp e2
  rw [List.getElem?_map, q1, ← q2]; rfl
theorem wk_keysT {kvs : List (List Key × V)} {l : List (List Key × D)} (m : ¬ M d) (h : H d = some (.frz ob (.dT kvs))) (hk : kvs.map (·.1) = l.map (·.1)) : Wk K M H (Itkt d ob kvs) (l.map fun p => .tup (p.1.map kD)) := by
  have hl : kvs.length = l.length := by have := congrArg List.length hk; simpa using this
  refine ⟨fun H => H d = some (.frz ob (.dT kvs)), _, by rw [List.length_map, ← hl]; exact walk_keysT, fun F M1 H1 fm s mt => ⟨nfStep fm s m h, fun i x H2 hi y => ?_⟩⟩
  obtain ⟨rfl, k, v, q, e1, rfl, e3⟩ := y
  refine ⟨.refl, .tup (k.map kD), ?_, .tup trivial e3 (kDs_rep k)⟩
  have e2 : (kvs.map (·.1))[i]? = some k := by rw [List.getElem?_map, e1]; rfl
  rw [hk, List.getElem?_map] at e2
  obtain ⟨p, q1, q2⟩ := Option.map_eq_some_iff.mp e2
  rw [List.getElem?_map, q1, ← q2]; rfl
/-! ### locked for a while -/
def DictU (u : HO) : Prop := (∃ kvs, u = .dK kvs) ∨ ∃ kvs, u = .dT kvs
theorem DictU.mut {u : HO} (h : DictU u) : Mut (some u) := by
  rcases h with ⟨_, rfl⟩ | ⟨_, rfl⟩ <;> exact True.intro
theorem tr_lock {u : HO} (hu : DictU u) (h : H d = some u) : Tr M H M (upd H d (.frz ob u)) := by
  have ne : ∀ a o, H a = some o → ¬ DictU o → a ≠ d := fun a o e n z => n (by rw [z, h] at e; cases e; exact hu)
  refine ⟨fun a u' m r nf => ?_, fun a xs m e => ?_, fun a xs m e => ?_, fun a o xs m e => ?_, fun a C dx fs m e => ?_, fun a m _ => m⟩
  · by_cases z : a = d
    · subst z
      rcases r with r | ⟨o, r⟩
      · rw [h] at r; cases r
        exact .inr ⟨ob, upd_same⟩
      · rw [h] at r; cases r
        rcases hu with ⟨_, q⟩ | ⟨_, q⟩ <;> cases q
    · rcases r with r | ⟨o, r⟩
      · exact .inl (by rw [upd_ne z]; exact r)
      · exact .inr ⟨o, by rw [upd_ne z]; exact r⟩
  all_goals
    rw [upd_ne (ne a _ e (by rintro (⟨_, q⟩ | ⟨_, q⟩) <;> cases q))]
    exact e
theorem tr_unlock {u : HO} (hu : DictU u) (h : H d = some (.frz ob u)) : Tr M H M (upd H d u) := by
  have ne : ∀ a o, H a = some o → (∀ o', o ≠ .frz o' u) → a ≠ d := fun a o e n z => by rw [z, h] at e; cases e; exact n _ rfl
  refine ⟨fun a u' m r nf => ?_, fun a xs m e => ?_, fun a xs m e => ?_, fun a o xs m e => ?_, fun a C dx fs m e => ?_, fun a m _ => m⟩
  · by_cases z : a = d
    · subst z
      rcases r with r | ⟨o, r⟩
      · rw [h] at r; cases r
        exact absurd rfl (nf _ _)
      · rw [h] at r; cases r
        exact .inl upd_same
    · rcases r with r | ⟨o, r⟩
      · exact .inl (by rw [upd_ne z]; exact r)
      · exact .inr ⟨o, by rw [upd_ne z]; exact r⟩
  · rw [upd_ne (ne a _ e fun _ z => nomatch z)]; exact e
  · rw [upd_ne (ne a _ e fun _ z => nomatch z)]; exact e
  · rw [upd_ne (ne a _ e fun o' z => by cases z; rcases hu with ⟨_, q⟩ | ⟨_, q⟩ <;> cases q)]; exact e
  · rw [upd_ne (ne a _ e fun _ z => nomatch z)]; exact e
theorem ER.tr {B : V × (Addr → Prop)} {F : Nat → Addr → Prop} {σ : L2.St} {ρ : List W} {H' : Hp} (er : ER K B M F H σ ρ) (t : Tr M H M H') (k : ∀ a, M a → H' a = H a) : ER K B M F H' σ ρ :=
  ⟨er.len, fun i b o h => by
    obtain ⟨v, h1, h2, h3⟩ := er.own i b o h
    exact ⟨v, h1, h2.tr t fun a z => k a (er.sub i a z), h3⟩, er.dis, er.sub, fun a m => by rw [k a m]; exact er.mtr a m, er.f0, er.b0⟩
theorem Post.unlock {τ : Bool} {B : V × (Addr → Prop)} {M' : Addr → Prop} {F F' : Nat → Addr → Prop} {σ : L2.St} {ρ ρ' : List W} {H' : Hp} {u : HO} (hu : DictU u) (er : ER K B M F H σ ρ) (m : ¬ M d) (h : H d = some u) (p : Post τ K B M F (upd H d (.frz ob u)) σ ρ M' F' H' ρ') :
    H' d = some (.frz ob u) ∧ ¬ M' d ∧ Post τ K B M F H σ ρ M' F' (upd H' d u) ρ' := by
  have nn : ∀ a, upd H d (.frz ob u) a = none → H a = none := fun a z => by
    by_cases q : a = d
    · rw [q, upd_same] at z; cases z
    · rw [upd_ne q] at z; exact z
  have h1 : H' d = some (.frz ob u) := p.step.kept d _ upd_same fun z => m (z.2.elim fun i z => er.sub i d z)
  have m1 : ¬ M' d := fun z => (p.step.new d z).elim m fun q => by rw [upd_same] at q; cases q
  have ne : ∀ a, M' a → a ≠ d := fun a z q => m1 (by rw [← q]; exact z)
  refine ⟨h1, m1, ⟨fun a o e n => ?_, fun a t => ?_, p.step.old, fun a z => (p.step.new a z).imp_right (nn a), fun a xs e => ?_⟩, p.er.tr (tr_unlock hu h1) fun a z => upd_ne (ne a z), fun i a z => (p.grow i a z).imp_right (nn a), p.same⟩
  · by_cases q : a = d
    · subst q
      rw [h] at e; cases e
      exact upd_same
    · rw [upd_ne q]
      exact p.step.kept a o (by rw [upd_ne q]; exact e) n
  · by_cases q : a = d
    · rw [q, upd_same]; exact fun z => nomatch z
    · rw [upd_ne q]
      exact p.step.trk a (by rw [upd_ne q]; exact t)
  · have q : a ≠ d := fun z => by
      rw [z, h] at e; cases e
      rcases hu with ⟨_, q⟩ | ⟨_, q⟩ <;> cases q
    rw [upd_ne q]
    exact p.step.tup a xs (by rw [upd_ne q]; exact e)
end
def itP (π : Pth) : LE := fun ρ => match pget π ρ with
  | some o => (keysO o).map fun ds => (ds, ρ)
  | none => none
theorem PAt.lock {K : PySem.W.Frag} {H : Hp} {σ : L2.St} {d : Addr} {ob : Obj} {u : HO} {v : V} (hu : DictU u) (z : H d = some u) : ∀ {π : Pth}, PAt K H σ π v → PAt K (upd H d (.frz ob u)) σ π v
  | .sl _, h => h
  | .fd _ _ _, ⟨a, dx, fvs, q1, q2, q3⟩ => ⟨a, dx, fvs, q1, by rw [upd_ne fun y => by rw [y, z] at q2; cases q2; rcases hu with ⟨_, q⟩ | ⟨_, q⟩ <;> cases q]; exact q2, q3⟩
def LkAt (K : PySem.W.Frag) (H : Hp) (σ : L2.St) (π : Pth) : Prop := ∃ d ob u, PAt K H σ π (.ref d) ∧ H d = some (.frz ob u)
def tIP (K : PySem.W.Frag) (π : Pth) : TI := fun σ H R => LkAt K H σ π ∧ tI K false (itP π) σ H R
section
variable {X : Cx} {tg iter elt : Expr} {ifs : List Expr} {scope : Scope} {own : List (Str × Nat)} {pos spos : Pos} {τ₀ τ τ' : Bool} {π : Pth} {b : D → List W → Option (List W)} {gt : BE} {ge : DE}
theorem i_keys (h : XP X iter π) : PI X tg iter (tIP X.K π) := imI (pi_keys h) fun σ H R ⟨⟨d, ob, u, hp, hd⟩, B, M, F, ρ, ds, ρ', er, eg, k⟩ => by
  unfold itP at eg
  split at eg
  · rename_i o e1
    obtain ⟨ds', e2, e3⟩ := Option.map_eq_some_iff.mp eg
    cases e3
    obtain ⟨v, G, h1, h2, _⟩ := er.path e1
    cases PAt.inj h1 hp
    refine ⟨.ref d, hp, d, ob, rfl, ?_⟩
    unfold keysO at e2
    split at e2
    · cases e2
      cases h2 with
      | sh r =>
        cases r with
        | dk m rd hk rs =>
          rcases rd with z | ⟨ob', z⟩
          · rw [hd] at z; cases z
          · rw [hd] at z; cases z
            exact .inl ⟨_, hd, k _ H M F (.refl _ er) (wk_keys m hd hk)⟩
    · cases e2
      cases h2 with
      | sh r =>
        cases r with
        | dt m rd hk rs =>
          rcases rd with z | ⟨ob', z⟩
          · rw [hd] at z; cases z
          · rw [hd] at z; cases z
            exact .inr ⟨_, hd, k _ H M F (.refl _ er) (wk_keysT m hd hk)⟩
    · cases e2
  · cases eg
/-- [elt for tg in d if ..], d a shared dict at a path -/
theorem x_lcP (hc : X.calm = true) (hN : X.N.Nodup) (hi : XP X iter π) (ok : BlkOk X.N X.env.scope scope own) (hv : ∀ v ∈ own.map (·.2), v ≠ 0) (ho : OnlyIn (own.map (·.2)) b)
    (hg : ∀ (s : Shared) (H : Hp) (C : Addr) (cl : List (Str × Addr)) (fp : List Addr), XB (X.blk s H scope (compEnvC scope cl C X.env) fp) tg (own.map (·.2)) b)
    (ht : ∀ (s : Shared) (H : Hp) (C : Addr) (cl : List (Str × Addr)) (fp : List Addr), XTs (X.blk s H scope (compEnvC scope cl C X.env) fp) ifs τ gt)
    (he : ∀ (s : Shared) (H : Hp) (C : Addr) (cl : List (Str × Addr)) (fp : List Addr), XD (X.blk s H scope (compEnvC scope cl C X.env) fp) elt τ' ge) (hs : ∀ x, foldedSetIterable iter X.env x = pure x := by intro _; rfl) :
    XO X (.ListComp elt [⟨tg, iter, ifs, 0⟩] scope pos) (false || (τ || τ')) (lcE (own.map (·.2)) (itP π) b gt ge) :=
  have P := pe_lc (pos := pos) hc hN (i_keys (tg := tg) hi) ok hg ht he hs
  imE (orPE P (pe_lock P)) fun σ H Q w => by
    obtain ⟨B, M, F, ρ, o, ρ', er, eg, k⟩ := w
    have e0 := eg
    unfold lcE itP at e0
    split at e0
    · cases e0
    · rename_i ds ρ1 e1
      split at e1
      · rename_i ox e2
        obtain ⟨ds', e3, e4⟩ := Option.map_eq_some_iff.mp e1
        cases e4
        obtain ⟨v, G, h1, h2, _⟩ := er.path e2
        have all : ∀ (d : Addr) (u : HO), v = .ref d → ¬ M d → Rd H d u → DictU u → (tLc (tIP X.K π) (tB X.K (own.map (·.2)) b) (tT X.K τ gt) (tD X.K τ' ge) (own.map (·.2)) σ H Q) ∨ tLockE (tLc (tIP X.K π) (tB X.K (own.map (·.2)) b) (tT X.K τ gt) (tD X.K τ' ge) (own.map (·.2))) σ H Q := by
          intro d u ev m rd hu
          subst ev
          rcases rd with z | ⟨ob, z⟩
          · refine .inr ⟨d, u, z, hu.mut, fun ob => ?_⟩
            have ne : ∀ a, M a → upd H d (.frz ob u) a = H a := fun a q => upd_ne fun z => m (by rw [← z]; exact q)
            have er2 := er.tr (tr_lock (ob := ob) hu z) ne
            have hp : PAt X.K (upd H d (.frz ob u)) σ π (.ref d) := PAt.lock hu z h1
            have w2 : tLc (tI X.K false (itP π)) (tB X.K (own.map (·.2)) b) (tT X.K τ gt) (tD X.K τ' ge) (own.map (·.2)) σ (upd H d (.frz ob u)) (fun v H' => H' d = some (.frz ob u) ∧ Q v (upd H' d u)) := by
              refine tO_lc hv ho σ _ _ ⟨B, M, F, ρ, o, ρ', er2, eg, fun v H' M' F' G p ow dj gm => ?_⟩
              obtain ⟨q1, q2, q3⟩ := Post.unlock hu er m z p
              refine ⟨q1, k v _ M' F' G q3 (ow.tr (tr_unlock hu q1) fun a y => upd_ne fun w => q2 (by rw [← w]; exact (gm a y).1)) dj fun a y => ⟨(gm a y).1, ?_⟩⟩
              have w := (gm a y).2
              by_cases q : a = d
              · rw [q, upd_same] at w; cases w
              · rw [upd_ne q] at w; exact w
            exact ⟨⟨d, ob, u, hp, upd_same⟩, w2⟩
          · exact .inl ⟨⟨d, ob, u, h1, z⟩, tO_lc hv ho σ H Q ⟨B, M, F, ρ, o, ρ', er, eg, k⟩⟩
        unfold keysO at e3
        split at e3
        · cases h2 with
          | sh r => cases r with
            | dk m rd hk rs => exact all _ _ rfl m rd (.inl ⟨_, rfl⟩)
        · cases h2 with
          | sh r => cases r with
            | dt m rd hk rs => exact all _ _ rfl m rd (.inr ⟨_, rfl⟩)
        · cases e3
      · cases e1
end
/-! ### list(d) -/
def listK : List D → Option O
  | [.dk l] => some (.ol (l.map fun p => kD p.1))
  | _ => none
def listT : List D → Option O
  | [.dt l] => some (.ol (l.map fun p => .tup (p.1.map kD)))
  | _ => none
section
variable {K : PySem.W.Frag}
theorem keys_reps {M : Addr → Prop} {H : Hp} : ∀ {kvs : List (Key × V)} {l : List (Key × D)}, kvs.map (·.1) = l.map (·.1) → Reps K M H (kvs.map fun kv => kV kv.1) (l.map fun p => kD p.1) := fun {kvs l} h => by
  have e1 : kvs.map (fun kv => kV kv.1) = (l.map (·.1)).map kV := by rw [← h, List.map_map]; rfl
  have e2 : l.map (fun p => kD p.1) = (l.map (·.1)).map kD := by rw [List.map_map]; rfl
  rw [e1, e2]
  exact kDs_rep _
theorem co_listK : CO K (fun xs H Q => ∃ (a : Addr) (kvs : List (Key × V)), xs = [.ref a] ∧ Rd H a (.dK kvs) ∧ ∀ p, H p = none → Q (.ref p) (upd H p (.lst (kvs.map fun kv => kV kv.1)))) listK := fun M H vs ds o Q m rs e k => by
  unfold listK at e
  split at e
  · cases e
    cases rs with
    | cons r1 r2 =>
      cases r2
      cases r1 with
      | dk ma rd hk rs => exact ⟨_, _, rfl, rd, fun p hp => newOl m hp (keys_reps hk) k⟩
  · cases e
theorem keysT_reps {M : Addr → Prop} {H : Hp} {kvs : List (List Key × V)} {bs : List Addr} (h : IsKeys H kvs bs) : ∀ {l : List (List Key × D)}, kvs.map (·.1) = l.map (·.1) → Reps K M H (bs.map V.ref) (l.map fun p => .tup (p.1.map kD)) := by
  unfold IsKeys at h
  induction h with
  | nil =>
    intro l hk
    cases l with
    | nil => exact .nil
    | cons _ _ => cases hk
  | @cons p q ps qs h t ih =>
    intro l hk
    cases l with
    | nil => cases hk
    | cons y l =>
      obtain ⟨h1, h2⟩ := List.cons.inj hk
      refine .cons (.tup trivial ?_ (kDs_rep _)) (ih h2)
      have h3 : p.1 = y.1 := h1
      rw [← h3]
      exact h
theorem co_listT : CO K (fun xs H Q => ∃ d kvs, xs = [V.ref d] ∧ Rd H d (.dT kvs) ∧ ∀ p bs, H p = none → IsKeys H kvs bs → Q (.ref p) (upd H p (.lst (bs.map V.ref)))) listT := fun M H vs ds o Q m rs e k => by
  unfold listT at e
  split at e
  · cases e
    cases rs with
    | cons r1 r2 =>
      cases r2
      cases r1 with
      | dt ma rd hk rs => exact ⟨_, _, rfl, rd, fun p bs hp hb => newOl m hp (keysT_reps hb hk) k⟩
  · cases e
end
end Dl
/-! text DL20 -/
set_option Elab.async false
set_option linter.all false
set_option maxRecDepth 100000
set_option maxHeartbeats 1000000
/-! The data layer: dict(pairs), a dict against {}. -/
namespace Dl
open PySem PySem.Spec PyProof.Rows L2

section
variable {κ : Type} [DecidableEq κ]
/-- pairs put in, one after another -/
def putsV (acc more : List (κ × V)) : List (κ × V) := more.foldl (fun l p => putK l p.1 p.2) acc
def kputs {α : Type} (acc more : List (κ × α)) : List (κ × α) := more.foldl (fun l p => kput l p.1 p.2) acc
theorem kputs_rep {K : PySem.W.Frag} {M : Addr → Prop} {H : Hp} : ∀ {mv : List (κ × V)} {md : List (κ × D)} {av : List (κ × V)} {ad : List (κ × D)}, mv.map (·.1) = md.map (·.1) → Reps K M H (mv.map (·.2)) (md.map (·.2)) → av.map (·.1) = ad.map (·.1) → Reps K M H (av.map (·.2)) (ad.map (·.2)) →
    (putsV av mv).map (·.1) = (kputs ad md).map (·.1) ∧ Reps K M H ((putsV av mv).map (·.2)) ((kputs ad md).map (·.2))
  | [], [], _, _, _, _, h, r => ⟨h, r⟩
  | [], _ :: _, _, _, h, _, _, _ => nomatch h
  | _ :: _, [], _, _, h, _, _, _ => nomatch h
  | p :: mv, q :: md, av, ad, h, r, h', r' => by
    simp only [List.map_cons] at h r
    obtain ⟨h1, h2⟩ := List.cons.inj h
    cases r with
    | cons r1 r2 =>
      obtain ⟨w1, w2⟩ := kput_rep (k := p.1) h' r' r1
      have := kputs_rep h2 r2 w1 w2
      rw [h1] at this
      unfold putsV kputs at this ⊢
      rw [List.foldl_cons, List.foldl_cons, ← h1]
      rw [← h1] at this
      exact this
theorem putsV_length : ∀ (mv av : List (κ × V)), (putsV av mv).length ≤ av.length + mv.length
  | [], av => Nat.le_refl _
  | p :: mv, av => by
    have h1 := putsV_length mv (putK av p.1 p.2)
    have h2 := length_putK av p.1 p.2
    unfold putsV at h1 ⊢
    rw [List.foldl_cons, List.length_cons]
    omega
end
/-! ### dict(pairs), the keys tuples -/
section
variable {X : Cx}
abbrev KB : List (List Key × Addr × V) → List (List Key × Addr × Value) → Prop := Paired fun p q => p.1 = q.1 ∧ p.2.1 = q.2.1 ∧ RelV p.2.2 q.2.2
theorem kt_all {H : Hp} : ∀ {ks : List (List Key × Addr × V)} {prs : List (List Key × Addr × Value)} {acc : List (List Key × V)} {xs : List (List Key × Addr × Value)}, KB ks prs → (∀ x ∈ ks, H x.2.1 = some (.tup (x.1.map kV))) → KT H acc xs →
    KT H (putsV acc (ks.map fun x => (x.1, x.2.2))) (storedAllH xs prs)
  | _, _, _, _, .nil, _, h => h
  | _, _, _, _, .cons (a := p) (b := q) (l₁ := ks) (l₂ := prs) h t, hk, r => by
    obtain ⟨h1, h2, h3⟩ := h
    have e := hk p List.mem_cons_self
    have w := KT.put r p.1 (b := q.2.1) (by rw [← h2]; exact e) h3
    rw [h1] at w
    have := kt_all t (fun x hx => hk x (List.mem_cons_of_mem _ hx)) w
    unfold putsV storedAllH at this ⊢
    rw [List.map_cons, List.foldl_cons, List.foldl_cons]
    dsimp only
    rw [h1]
    exact this
theorem pairs_at {pins : List (Addr × Obj)} {σ : L2.St} {H : Hp} {s : Shared} (I : Inv X pins σ H s) : ∀ {ps : List Addr} {ks : List (List Key × Addr × V)}, Paired (fun p x => SqT X.K H p [.ref x.2.1, x.2.2]) ps ks →
    ∃ prs : List (List Key × Addr × Value), KB ks prs ∧ prs.length = ps.length ∧ ∀ (j : Nat) (q : List Key × Addr × Value), prs[j]? = some q → ∃ b : Addr, ps[j]? = some b ∧ IsTup s.heap b #[.ref q.2.1, q.2.2]
  | _, _, .nil => ⟨[], .nil, rfl, fun j q e => by simp at e⟩
  | _, _, .cons (a := p) (b := x) h t => by
    obtain ⟨prs, r, hl, hp⟩ := pairs_at I t
    obtain ⟨its, rv, ht, _⟩ := I.tuple h
    cases rv with
    | cons r1 rv => cases rv with
      | cons r2 rv =>
        cases rv
        cases r1
        refine ⟨(x.1, x.2.1, _) :: prs, .cons ⟨rfl, rfl, r2⟩ r, by rw [List.length_cons, List.length_cons, hl], fun j q e => ?_⟩
        cases j with
        | zero =>
          cases Option.some.inj e
          exact ⟨p, rfl, ht⟩
        | succ j =>
          obtain ⟨b, e1, e2⟩ := hp j q (by simpa using e)
          exact ⟨b, by simpa using e1, e2⟩
theorem kb_mem : ∀ {ks : List (List Key × Addr × V)} {prs : List (List Key × Addr × Value)}, KB ks prs → ∀ y ∈ prs, ∃ x ∈ ks, x.1 = y.1 ∧ x.2.1 = y.2.1
  | _, _, .nil, _, h => nomatch h
  | _, _, .cons (a := p) (b := q) h t, y, hy => by
    rcases List.mem_cons.mp hy with e | e
    · subst e
      exact ⟨p, List.mem_cons_self, h.1, h.2.1⟩
    · obtain ⟨x, h1, h2⟩ := kb_mem t y e
      exact ⟨x, List.mem_cons_of_mem _ h1, h2⟩
def rDictT (K : PySem.W.Frag) : List V → Hp → VK → Prop := fun xs H Q => ∃ (a : Addr) (ps : List Addr) (ks : List (List Key × Addr × V)), xs = [.ref a] ∧ SqL K H a (ps.map V.ref) ∧ Paired (fun p x => SqT K H p [.ref x.2.1, x.2.2]) ps ks ∧
  (∀ x ∈ ks, H x.2.1 = some (.tup (x.1.map kV))) ∧ ∀ p, H p = none → Q (.ref p) (upd H p (.dT (putsV [] (ks.map fun x => (x.1, x.2.2)))))
theorem call_dictT (hc : X.calm = true) (hu : X.A.units + 1 + 1 < cLine) : CallR X (.type "dict") (rDictT X.K) := by
  intro pins s σ H xs us Q I r ⟨a, ps, ks, ex, hq, hp, hk, q⟩
  subst ex
  obtain ⟨u, eu, rx⟩ := vals1 r
  subst eu
  cases rx
  obtain ⟨its, rv, pl, hz⟩ := I.list hq
  have ei := refs_at rv
  subst ei
  rw [List.length_map] at hz
  obtain ⟨prs, rel, hl, hpr⟩ := pairs_at I hp
  obtain ⟨o, n, ho, hcl, hd, hdat⟩ := pl
  have hlk : ks.length = prs.length := Paired.length rel
  have P := PairArg.list (prog := X.prog) (w := X.w) a (ps.map Value.ref).toArray (fun j => ps.getD j 0) (prs.map fun x => (Value.ref x.2.1, x.2.2))
  have key : ∀ (h' : Heap), (∀ b ob, b ≠ s.heap.objs.size → s.heap.get? b = some ob → h'.get? b = some ob) → ∀ y ∈ prs, (tupleKind (mixKind X.prog X.w)).is h' y.1 y.2.1 := by
    intro h' kp y hy
    obtain ⟨x, hx, e1, e2⟩ := kb_mem rel y hy
    have hb := hk x hx
    rw [e1, e2] at hb
    exact tupleKind_stays.stays (fun b ob vs m e _ => kp b ob (Nat.ne_of_lt (Heap.lt_size e)) e) (key_of I.hok hb)
  refine call_dict_pairsH (knd := tupleKind (mixKind X.prog X.w)) (ps := prs) P (I.ok.hd hc) hu ⟨⟨o, n, ho, hcl, hd, hdat⟩, by simp [hl], fun j k v hj => ?_⟩ ⟨by simp, fun i k v hi => ?_⟩ (fun h' kp y hy => ?_) ?_ fun h' tk hd' kk => ?_
  · rw [List.getElem?_map] at hj
    obtain ⟨y, e1, e2⟩ := Option.map_eq_some_iff.mp hj
    cases e2
    obtain ⟨b, e3, e4⟩ := hpr j y e1
    have e5 : ps.getD j 0 = b := by rw [List.getD_eq_getElem?_getD, e3]; rfl
    refine ⟨by simp [e3, e5], .inl ?_⟩
    dsimp only
    rw [e5]
    obtain ⟨ob, h1, h2, m, h3⟩ := e4
    exact ⟨ob, h1, h2, m, h3⟩
  · have hi' : (prs.map fun x => (Value.ref x.2.1, x.2.2))[i]? = some (k, v) := hi
    rw [List.getElem?_map] at hi'
    obtain ⟨y, e1, e2⟩ := Option.map_eq_some_iff.mp hi'
    cases e2
    exact ⟨y.1, y.2.1, e1, rfl⟩
  · exact key h' (fun b ob h1 e => kp b ob h1 (fun z => nomatch z) e) y hy
  · simp only [List.length_map]
    omega
  · have hm : (s.heap.objs.size == sysModules) = false := beq_eq_false_iff_ne.mpr (Nat.ne_of_gt I.big)
    obtain ⟨ob, es, ep, h1, h2, h3, h4, _, h5⟩ := hd'
    have hlen : (putsV [] (ks.map fun x => (x.1, x.2.2))).length ≤ sizeLine := by
      have := putsV_length (ks.map fun x => (x.1, x.2.2)) []
      rw [List.length_map, List.length_nil] at this
      omega
    have hn : H s.heap.objs.size = none := I.hok.fresh (Nat.le_refl _)
    refine ⟨.ref s.heap.objs.size, _, I.laid (t' := tk) (o := .dT (putsV [] (ks.map fun x => (x.1, x.2.2)))) (fun b u e => kk b u (fun z => nomatch z) e) (Nat.le_refl _) ?_, rfl, q _ hn⟩
    refine ⟨hlen, hm, _, (kt_all rel hk .nil).keeps fun b ys e => ?_, ob, es, ep, h1, h2, h3, h4, h5⟩
    rw [upd_ne (ne_of_none e hn)]
    exact e
end
/-! ### as data -/
def pairK : List D → Option (List (Key × D))
  | [] => some []
  | .tup [k, d] :: r => match keyD k with
    | some k => (pairK r).map ((k, d) :: ·)
    | none => none
  | _ => none
def pairT : List D → Option (List (List Key × D))
  | [] => some []
  | .tup [.tup ks, d] :: r => match keysD ks with
    | some k => (pairT r).map ((k, d) :: ·)
    | none => none
  | _ => none
def dictKO : List D → Option O
  | [.lst l] => (pairK l).map fun m => .ok (kputs [] m)
  | _ => none
def dictTO : List D → Option O
  | [.lst l] => (pairT l).map fun m => .ot (kputs [] m)
  | _ => none
section
variable {K : PySem.W.Frag} {M : Addr → Prop} {H : Hp}
theorem newOk {p : Addr} {kvs : List (Key × V)} {ds : List (Key × D)} {Q : VK} (m : Mtr M H) (hp : H p = none) (hk : kvs.map (·.1) = ds.map (·.1)) (r : Reps K M H (kvs.map (·.2)) (ds.map (·.2))) (k : ∀ v H' M' G, Step NoF M H M' H' → Mtr M' H' → Own K M' H' v (.ok ds) G → (∀ a, G a → M' a ∧ H a = none) → Q v H') : Q (.ref p) (upd H p (.dK kvs)) := by
  have s : Step NoF M H (fun a => M a ∨ a = p) (upd H p (.dK kvs)) := .laidM hp
  exact k (.ref p) _ _ (fun a => a = p) s (fun a z => z.elim (fun q => s.trk a (m a q)) fun q => by rw [q, upd_same]; exact fun z => nomatch z) (.ok rfl upd_same hk (r.tr (s.tr fun _ z => z.elim))) fun a z => ⟨.inr z, by rw [z]; exact hp⟩
theorem newOt {p : Addr} {kvs : List (List Key × V)} {ds : List (List Key × D)} {Q : VK} (m : Mtr M H) (hp : H p = none) (hk : kvs.map (·.1) = ds.map (·.1)) (r : Reps K M H (kvs.map (·.2)) (ds.map (·.2))) (k : ∀ v H' M' G, Step NoF M H M' H' → Mtr M' H' → Own K M' H' v (.ot ds) G → (∀ a, G a → M' a ∧ H a = none) → Q v H') : Q (.ref p) (upd H p (.dT kvs)) := by
  have s : Step NoF M H (fun a => M a ∨ a = p) (upd H p (.dT kvs)) := .laidM hp
  exact k (.ref p) _ _ (fun a => a = p) s (fun a z => z.elim (fun q => s.trk a (m a q)) fun q => by rw [q, upd_same]; exact fun z => nomatch z) (.ot rfl upd_same hk (r.tr (s.tr fun _ z => z.elim))) fun a z => ⟨.inr z, by rw [z]; exact hp⟩
theorem pairK_rep : ∀ {vs : List V} {l : List D} {m : List (Key × D)}, Reps K M H vs l → pairK l = some m → ∃ (ps : List Addr) (kvs : List (Key × V)), vs = ps.map V.ref ∧ Paired (fun p kv => SqT K H p [kV kv.1, kv.2]) ps kvs ∧ kvs.map (·.1) = m.map (·.1) ∧ Reps K M H (kvs.map (·.2)) (m.map (·.2))
  | _, _, _, .nil, h => by cases h; exact ⟨[], [], rfl, .nil, rfl, .nil⟩
  | _, _, _, .cons a b, h => by
    unfold pairK at h
    split at h
    · rename_i z; cases z
    · rename_i k d r z
      cases z
      split at h
      · rename_i k' e1
        obtain ⟨m', e2, e3⟩ := Option.map_eq_some_iff.mp h
        subst e3
        obtain ⟨ps, kvs, h1, h2, h3, h4⟩ := pairK_rep b e2
        cases a with
        | @tup p xs _ m0 ha rs =>
          cases rs with
          | cons r1 rs => cases rs with
            | @cons y _ _ _ r2 rs =>
              cases rs
              have ek := r1.key e1
              subst ek
              exact ⟨p :: ps, (k', y) :: kvs, by rw [h1]; rfl, .cons (.of ha) h2, by rw [List.map_cons, List.map_cons, h3], .cons r2 h4⟩
      · cases h
    · cases h
theorem pairT_rep : ∀ {vs : List V} {l : List D} {m : List (List Key × D)}, Reps K M H vs l → pairT l = some m → ∃ (ps : List Addr) (ks : List (List Key × Addr × V)), vs = ps.map V.ref ∧ Paired (fun p x => SqT K H p [.ref x.2.1, x.2.2]) ps ks ∧ (∀ x ∈ ks, H x.2.1 = some (.tup (x.1.map kV))) ∧
    (ks.map fun x => (x.1, x.2.2)).map (·.1) = m.map (·.1) ∧ Reps K M H ((ks.map fun x => (x.1, x.2.2)).map (·.2)) (m.map (·.2))
  | _, _, _, .nil, h => by cases h; exact ⟨[], [], rfl, .nil, (fun _ z => nomatch z), rfl, .nil⟩
  | _, _, _, .cons a b, h => by
    unfold pairT at h
    split at h
    · rename_i z; cases z
    · rename_i kk d r z
      cases z
      split at h
      · rename_i k' e1
        obtain ⟨m', e2, e3⟩ := Option.map_eq_some_iff.mp h
        subst e3
        obtain ⟨ps, ks, h1, h2, h3, h4, h5⟩ := pairT_rep b e2
        cases a with
        | @tup p xs _ m0 ha rs =>
          cases rs with
          | cons r1 rs => cases rs with
            | @cons y _ _ _ r2 rs =>
              cases rs
              cases r1 with
              | @tup q ys _ m1 hb rk =>
                have ek := rk.keys e1
                subst ek
                refine ⟨p :: ps, (k', q, y) :: ks, by rw [h1]; rfl, .cons (.of ha) h2, fun x hx => ?_, ?_, ?_⟩
                · rcases List.mem_cons.mp hx with z | z
                  · subst z; exact hb
                  · exact h3 x z
                · rw [List.map_cons, List.map_cons, List.map_cons, h4]
                · rw [List.map_cons, List.map_cons, List.map_cons]; exact .cons r2 h5
      · cases h
    · cases h
theorem co_dictT : CO K (rDictT K) dictTO := fun M H vs ds o Q m rs e k => by
  unfold dictTO at e
  split at e
  · obtain ⟨l, e1, e2⟩ := Option.map_eq_some_iff.mp e
    subst e2
    cases rs with
    | cons r1 r2 =>
      cases r2
      cases r1 with
      | lst ma ha rl =>
        obtain ⟨ps, ks, h1, h2, h3, h4, h5⟩ := pairT_rep rl e1
        subst h1
        obtain ⟨w1, w2⟩ := kputs_rep h4 h5 (av := []) (ad := []) rfl .nil
        exact ⟨_, ps, ks, rfl, .of ha, h2, h3, fun p hp => newOt m hp w1 w2 k⟩
  · cases e
theorem mergeK_puts (kvs : List (Key × V)) : mergeK [] kvs = putsV [] kvs := rfl
theorem co_dictK : CO K (fun xs H Q => ∃ (a : Addr) (ps : List Addr) (kvs : List (Key × V)), xs = [.ref a] ∧ SqL K H a (ps.map V.ref) ∧ Paired (fun p kv => SqT K H p [kV kv.1, kv.2]) ps kvs ∧ ∀ p, H p = none → Q (.ref p) (upd H p (.dK (mergeK [] kvs)))) dictKO := fun M H vs ds o Q m rs e k => by
  unfold dictKO at e
  split at e
  · obtain ⟨l, e1, e2⟩ := Option.map_eq_some_iff.mp e
    subst e2
    cases rs with
    | cons r1 r2 =>
      cases r2
      cases r1 with
      | lst ma ha rl =>
        obtain ⟨ps, kvs, h1, h2, h4, h5⟩ := pairK_rep rl e1
        subst h1
        obtain ⟨w1, w2⟩ := kputs_rep h4 h5 (av := []) (ad := []) rfl .nil
        exact ⟨_, ps, kvs, rfl, .of ha, h2, fun p hp => newOk m hp w1 w2 k⟩
  · cases e
end
end Dl
/-! text DL21 -/
set_option Elab.async false
set_option linter.all false
set_option maxRecDepth 100000
set_option maxHeartbeats 1000000
/-! The data layer: a dict against {}. -/
namespace Dl
open PySem PySem.Spec PyProof.Rows L2

section
variable {P : Program} {w : World} {A : Around} {E : Value → Shared → Prop} {s : Shared}
theorem ne_sizes {a b : Addr} {oa ob : Obj} {es es' : Array DictEntry} {ep ep' : Nat} {Q : Value → Shared → Prop} (na : (a == sysModules) = false) (nb : (b == sysModules) = false) (xa : s.heap.get? a = some oa) (ca : oa.cls = .type "dict") (da : oa.data = .dict es ep)
    (xb : s.heap.get? b = some ob) (cb : ob.cls = .type "dict") (db : ob.data = .dict es' ep') (hu : A.units < cLine) (ne : es.size ≠ es'.size) (h : Q (.bool true) s) : wpAny (model P w) A (compareOp .NotEq (.ref a) (.ref b)) Q E s := by
  have ta : s.TypeIs (.ref a) "dict" := ⟨oa, xa, ca⟩
  have tb : s.TypeIs (.ref b) "dict" := ⟨ob, xb, cb⟩
  have same : ∀ nm, wpAny (model P w) A.in1 (Builtin.Dict.samePairs nm a b) (fun r s' => r = false ∧ s' = s) (fun _ _ => False) s := fun nm => by
    unfold Builtin.Dict.samePairs Builtin.Dict.showsAll
    rw [if_neg (fun z => by rw [na] at z; cases z), if_neg (fun z => by rw [nb] at z; cases z)]
    refine wpAny_bind (wpAny_pure (wpAny_bind (wpAny_pure (wpAny_bind (wpAny_dictEntries xa da ?_)))))
    refine wpAny_bind (wpAny_dictEntries xb db ?_)
    rw [if_pos (show (es.size != es'.size) = true by simpa using ne)]
    exact wpAny_bind (wpAny_rule (wpAny_pure ⟨rfl, rfl⟩))
  refine wpAny_richCompare_same_room (op := .NotEq) ta tb PySem.F.slot_dict_ne (wpAny_call_entry PySem.F.slot_dict_ne ta PySem.F.entry_dict_ne ?_ (PySem.F.args_dict_ne_2 (.ref a) (.ref b))) hu
  have first : wpAny (model P w) A.in1 (Builtin.Dict.dictSlotArgs "__ne__" ⟨[.ref a, .ref b], []⟩) (fun r s' => r = (Value.ref a, Value.ref b) ∧ s' = s) (fun _ _ => False) s := by
    unfold Builtin.Dict.dictSlotArgs
    exact wpAny_bind (wpAny_notOrdered_dict ta (wpAny_pure ⟨rfl, rfl⟩))
  refine wpAny_bind (m := Builtin.Dict.dictSlotArgs "__ne__" ⟨[.ref a, .ref b], []⟩) (wpAny_mono first (fun r s' z => ?_) fun _ _ z => z.elim)
  obtain ⟨rfl, rfl⟩ := z
  refine wpAny_bind (wpAny_isInstance (T := "dict") tb PySem.F.sub_dict_dict ?_)
  simp only [Bool.not_true, Bool.false_eq_true, if_false]
  refine wpAny_bind (wpAny_pure (wpAny_bind (wpAny_pure (wpAny_bind (wpAny_mono (same _) (fun r s' z => ?_) fun _ _ z => z.elim)))))
  obtain ⟨rfl, rfl⟩ := z
  exact wpAny_pure ⟨_, rfl, (fun z => nomatch z), h⟩
end
section
variable {X : Cx} {a b e : Expr} {p pos : Pos} {π : Pth}
def rNeE : R2 := fun x y H Q => ∃ a b n, x = .ref a ∧ y = .ref b ∧ H b = some (.dK []) ∧ ((∃ ks, H a = some (.dK ks) ∧ n = ks.length) ∨ ∃ ks, H a = some (.dT ks) ∧ n = ks.length) ∧ Q (.bl (decide (n ≠ 0))) H
theorem op_neE (hu : X.A.units < cLine) : OpR X (compareOp .NotEq) rNeE := by
  intro pins s σ H x y v u Q I rx ry ⟨a, b, n, ex, ey, hb, ha, q⟩
  subst ex ey
  obtain rfl : v = Value.ref a := rx
  obtain rfl : u = Value.ref b := ry
  obtain ⟨_, yb, vb, rb, db⟩ := (show ObjOk X.prog X.w H s.heap b (.dK []) from I.hok b _ hb)
  have eb : vb = [] := List.eq_nil_of_length_eq_zero rb.length.symm
  subst eb
  have fin : ∀ k : Bool, k = decide (n ≠ 0) → EP X pins σ Q (.bool k) s := fun k ek => ⟨.bl k, H, I, rfl, by rw [ek]; exact q⟩
  have zero : ∀ (na : (a == sysModules) = false), s.heap.DictOf (mixKind X.prog X.w) a [] → n = 0 → wpAny (model X.prog X.w) X.A (compareOp .NotEq (.ref a) (.ref b)) (EP X pins σ Q) X.xe s := fun na da e =>
    PySem.W.keq_ne (knd := mixKind X.prog X.w) (r := true) na yb da db hu (fun _ => .nil) (fin _ (by simp [e]))
  obtain ⟨ob, es', ep', h1, h2, h3, h4, h5, h6⟩ := id db
  have z' : es'.size = 0 := by
    have := h5.length
    rw [Array.length_toList] at this
    exact this
  rcases ha with ⟨ks, ha, hn⟩ | ⟨ks, ha, hn⟩
  · obtain ⟨_, ya, va, ra, da⟩ := (show ObjOk X.prog X.w H s.heap a (.dK ks) from I.hok a _ ha)
    by_cases z : n = 0
    · have ev : va = [] := List.eq_nil_of_length_eq_zero (by rw [← ra.length, ← hn]; exact z)
      subst ev
      exact zero ya da z
    · obtain ⟨oa, es, ep, g1, g2, g3, g4, g5, g6⟩ := da
      have zs : es.size = n := by rw [hn, ra.length, ← g5.length, Array.length_toList]
      exact ne_sizes ya yb g1 g2.1 g3 h1 h2.1 h3 hu (by rw [zs, z']; exact z) (fin true (by simp [z]))
  · obtain ⟨_, ya, xs, ra, oa, es, ep, g1, g2, g3, g4, g5⟩ := (show ObjOk X.prog X.w H s.heap a (.dT ks) from I.hok a _ ha)
    have zs : es.size = n := by
      have := congrArg List.length g4
      rw [Array.length_toList, List.length_map] at this
      rw [this, hn]
      exact (Paired.length ra).symm
    by_cases z : n = 0
    · have ee : es = #[] := Array.eq_empty_of_size_eq_zero (zs.trans z)
      subst ee
      exact zero ya ⟨oa, #[], ep, g1, g2, g3, (fun e he => by simp at he), .nil, List.nodup_nil⟩ z
    · exact ne_sizes ya yb g1 g2.1 g3 h1 h2.1 h3 hu (by rw [zs, z']; exact z) (fin true (by simp [z]))
/-- path != {} -/
def neO (π : Pth) : DE := fun ρ => match pget π ρ with
  | some (.ok l) => some (.bl (decide (l.length ≠ 0)), ρ)
  | some (.ot l) => some (.bl (decide (l.length ≠ 0)), ρ)
  | _ => none
theorem tD_neO {K : PySem.W.Frag} (σ : L2.St) (H : Hp) (Q : VK) (w : tD K false (neO π) σ H Q) : tOp rNeE (tPa K π) tDNewK σ H Q := by
  obtain ⟨B, M, F, ρ, d, ρ', er, eg, k⟩ := w
  have main : ∀ (v : V) (n : Nat) (q : Addr) (u : HO), PAt K H σ π v → v = .ref q → H q = some u → ((∃ ks, u = .dK ks ∧ n = ks.length) ∨ ∃ ks, u = .dT ks ∧ n = ks.length) → d = .bl (decide (n ≠ 0)) → ρ' = ρ → tOp rNeE (tPa K π) tDNewK σ H Q := by
    intro v n q u hp ev hq hu ed er'
    subst ev ed er'
    refine ⟨.ref q, hp, fun p hn => ⟨q, p, n, rfl, rfl, upd_same, ?_, ?_⟩⟩
    · have ne : upd H p (.dK []) q = some u := by rw [upd_ne (ne_of_none hq hn)]; exact hq
      rcases hu with ⟨ks, e1, e2⟩ | ⟨ks, e1, e2⟩
      · exact .inl ⟨ks, by rw [ne, e1], e2⟩
      · exact .inr ⟨ks, by rw [ne, e1], e2⟩
    · have s : Step NoF M H M (upd H p (.dK [])) := .laid hn
      exact k _ _ M F (Post.keep false er s (mtr' s er.mtr)) (.bl _)
  unfold neO at eg
  split at eg
  · rename_i l e1
    cases eg
    obtain ⟨v, G, h1, h2, _⟩ := er.path e1
    cases h2 with
    | ok ga ha hk rs => exact main _ _ _ _ h1 rfl ha (.inl ⟨_, rfl, (kvs_len hk).symm⟩) rfl rfl
  · rename_i l e1
    cases eg
    obtain ⟨v, G, h1, h2, _⟩ := er.path e1
    cases h2 with
    | ot ga ha hk rs => exact main _ _ _ _ h1 rfl ha (.inr ⟨_, rfl, (kvs_len hk).symm⟩) rfl rfl
  · cases eg
theorem x_neO (hu : X.A.units < cLine) (ha : XP X a π) : XD X (.Compare a [.NotEq] [.Dict [] [] p] pos) false (neO π) := imE (pe_cmpR (op_neE hu) ha pe_dnewK (nomark _)) fun σ H Q w => tD_neO σ H Q w
theorem t_neO (hu : X.A.units < cLine) (ha : XP X a π) : XT X (.Compare a [.NotEq] [.Dict [] [] p] pos) false (bE (neO π)) := imT (pt_cmpR (op_neE hu) ha pe_dnewK (nomark _)) fun σ H Q w => tTest_of (fun σ H Q w => tD_neO σ H Q w) σ H Q w
end
end Dl
/-! text DL22 -/
set_option Elab.async false
set_option linter.all false
set_option maxRecDepth 100000
set_option maxHeartbeats 4000000
/-! The data layer: sorted(set(xs)), xs ints. -/
namespace Dl
open PySem PySem.Spec PyProof.Rows L2

section
variable {P : Program} {w : World} {A : Around} {E : Value → Shared → Prop} {s : Shared}
/-- a set just made -/
abbrev set0 (w : World) : Obj := { cls := .type "set", dict := none, data := .set #[] 0 (.fresh 0 0 (!w.params.followText "set-order")) }
/-- all that stood stands -/
abbrev Stood (h h' : Heap) : Prop := ∀ b o, h.get? b = some o → h'.get? b = some o
abbrev SetMade (w : World) (ns : List Int) (s s2 : Shared) : Prop := ∃ h' tk c, s2 = { s with heap := h', toks := tk } ∧ SetR w h' s.heap.objs.size (fun j => decide (j ∈ ns)) c ∧ c ≤ ns.length ∧ Stood s.heap h'
theorem set_init {l : Addr} {its : Array Value} {ns : List Int} (hh : A.in1.handled = none) (hl : s.heap.IsList l its) (hi : IntsAre its.toList ns) (hb : ns.length + 1 < scanBound) :
    wpAny (model P w) A (Builtin.«set.__init__» ⟨[.ref s.heap.objs.size, .ref l], []⟩)
      (fun fin s' => match fin with
        | .done f => f = .ret .none ∧ SetMade w ns s s'
        | .again c' => False)
      (fun _ _ => False) { s with heap := s.heap.push (set0 w) } := by
  have ln : its.size = ns.length := by
    have q := IntsAre.length hi
    rwa [Array.length_toList] at q
  obtain ⟨⟨oc, od, odt, osl⟩, ho, hc, n, hd⟩ := hl
  simp only at hc hd
  subst hc hd
  have ho1 : (s.heap.push (set0 w)).get? l = some { cls := .type "list", dict := od, data := .seq its n, slots := osl } := Heap.get?_push_of_some _ ho
  have q1 := F.sub_list_set
  have q2 := F.sub_list_frozenset
  have q3 : (Value.type "list" == Value.type "dict") = false := by decide
  have li : (s.heap.push (set0 w)).IsList l its := ⟨_, ho1, rfl, n, rfl⟩
  unfold Builtin.«set.__init__» noKeywords Builtin.Frozenset.updateFrom
  generalize hPI : pyIter = PI
  wp_walk
  subst hPI
  refine wpAny_pyIter_list li (wpAny_bind (wpAny_runValue ?_))
  have lt : l < s.heap.objs.size := Heap.lt_size ho
  have sz : (s.heap.push (set0 w)).objs.size = s.heap.objs.size + 1 := Heap.size_push _ _
  have w1 : l ≠ (s.heap.push (set0 w)).objs.size := fun e => by rw [sz] at e; exact absurd e (Nat.ne_of_lt (Nat.lt_succ_of_lt lt))
  have w2 : s.heap.objs.size ∉ [(s.heap.push (set0 w)).objs.size, l] := fun e => by
    rw [sz] at e
    rcases List.mem_cons.mp e with e | e
    · exact absurd e (Nat.ne_of_lt (Nat.lt_succ_self _))
    · exact absurd (List.mem_singleton.mp e) (Nat.ne_of_gt lt)
  have val : ∀ (i : Nat) (v : Value), its[i]? = some v → ∃ k t, ns[i]? = some k ∧ v = .int k t := fun i v hv => by
    have hlt : i < ns.length := ln ▸ (Array.getElem?_eq_some_iff.mp hv).1
    obtain ⟨t, e⟩ := IntsAre.int_at hi i v ((Array.getElem?_toList ..).trans hv)
    rw [List.getD_eq_getElem?_getD, List.getElem?_eq_getElem hlt] at e
    exact ⟨_, t, List.getElem?_eq_getElem hlt, e⟩
  have hget : ((s.heap.push (set0 w)).push { cls := .type "list_iterator", data := .fields #[.ref l, .int 0 0] }).get? s.heap.objs.size = some (set0 w) := Heap.get?_push_of_some _ (Heap.get?_push_size _ rfl)
  refine set_update_ints (Walks.list hh _ l w1 its).toS s.heap.objs.size w2 ns ln hb val its.size 0 _ (by omega) (Nat.zero_le _) ⟨⟨_, Heap.get?_push_size _ rfl, rfl, rfl⟩, li.push _⟩ ⟨0, Nat.le_refl 0, setR_new_at hget⟩ fun s' c hm hc' hS' => ?_
  obtain ⟨h2, g2, d2, t2, o2⟩ := s'
  have e1 : g2 = s.gens := hm.gens
  have e2 : d2 = s.drawn := hm.drawn
  have e3 : o2 = s.os := hm.os
  subst e1 e2 e3
  refine wpAny_pure ?_
  show wpAny (model P w) A (ret Value.none) _ _ _
  refine wpAny_pure ⟨rfl, h2, t2, c, rfl, hS', by rw [ln] at hc'; exact hc', fun b o e => ?_⟩
  have lb : b < s.heap.objs.size := Heap.lt_size e
  refine hm.heap b o (fun z => ?_) (Heap.get?_push_of_some _ (Heap.get?_push_of_some _ e))
  rcases List.mem_cons.mp z with z | z
  · exact absurd z (Nat.ne_of_lt lb)
  · have z := List.mem_singleton.mp z
    rw [sz] at z
    exact absurd z (Nat.ne_of_lt (Nat.lt_succ_of_lt lb))
set_option maxHeartbeats 3200000 in
theorem set_ints {l : Addr} {its : Array Value} {ns : List Int} {Q : Value → Shared → Prop} (hh : A.handled = none) (hl : s.heap.IsList l its) (hi : IntsAre its.toList ns) (hb : ns.length + 1 < scanBound)
    (h : ∀ s2, SetMade w ns s s2 → Q (.ref s.heap.objs.size) s2) : wpAny (model P w) A (call (.type "set") [.ref l]) Q E s := by
  obtain ⟨_, _, mro⟩ := F.called_set.mro
  have k1 := F.called_set.made
  have k2 := F.called_set.sub
  have k3 := F.called_set.notType
  have k4 := F.called_set.canCreate
  have k5 := F.typeCall_set_1 (.ref l)
  refine wpAny_call (codeAny_of_tree (show wpAny _ _ (callAny (.type "set") _) _ _ _ from wpAny_pure ⟨Code.quiet_builtin _ (by decide +kernel), codeAny_builtin F.entry_type_call ?_⟩))
  rw [Around.under_plain (weight_type_call_type "set" [.ref l] []) rfl]
  repeat (any_goals (first | assumption | wp_step))
  refine codeAny_mono (code_set_led1 (P := P) (.ref l) (E := E) (Q₁ := fun ob s1 => ob = .ref s.heap.objs.size ∧ s1 = { s with heap := s.heap.push (set0 w) }) ⟨rfl, rfl⟩) fun r s1 hr => ?_
  cases r with
  | error e => exact hr
  | ok fl => cases fl with
    | ret ob =>
      obtain ⟨rfl, rfl⟩ := hr
      have ty : Shared.TypeIs { s with heap := s.heap.push (set0 w) } (.ref s.heap.objs.size) "set" := ⟨_, Heap.get?_push_size _ rfl, rfl⟩
      have k6 := F.called_set.init.lookup
      have k7 := F.called_set.init.bind (.ref s.heap.objs.size)
      repeat (any_goals (first | assumption | wp_step))
      refine codeAny_mono (codeAny_call_builtin (R := wants (fun r s2 => r = .none ∧ SetMade w ns s s2) E) F.called_set.init.plain F.entry_set_init (check_set_init_1 ty ?_)) fun r2 s2 hr2 => ?_
      · refine wpAny_mono (set_init (by simp [hh]) hl hi hb) (fun fin s' z => ?_) fun _ _ z => z.elim
        cases fin with
        | done f =>
          obtain ⟨rfl, z⟩ := z
          exact ⟨rfl, z⟩
        | again c' => exact z.elim
      · cases r2 with
        | error e => exact hr2
        | ok f2 => cases f2 with
          | ret r =>
            obtain ⟨rfl, z⟩ := hr2
            repeat (any_goals (first | assumption | wp_step))
            exact h _ z
          | _ => exact hr2.elim
    | _ => exact hr.elim
end
/-! ### sorted(set(xs)) -/
section
variable {X : Cx}
def rSetI (K : PySem.W.Frag) (w : World) : List V → Hp → VK → Prop := fun xs H Q => ∃ (a : Addr) (ns : List Int), xs = [.ref a] ∧ SqL K H a (ns.map V.int) ∧ ns.length + 1 < scanBound ∧ ∀ p n, H p = none → n ≤ ns.length → Q (.ref p) (upd H p (SetO w p (fun j => decide (j ∈ ns)) n))
theorem call_setI (hc : X.calm = true) : CallR X (.type "set") (rSetI X.K X.w) := by
  intro pins s σ H xs us Q I r ⟨a, ns, ex, hq, hb, q⟩
  subst ex
  obtain ⟨u, eu, rx⟩ := vals1 r
  subst eu
  cases rx
  obtain ⟨its, rv, pl, hz⟩ := I.list hq
  refine set_ints (I.ok.hd hc) pl.isList (intsAre_of rv) hb fun s2 ⟨h', tk, n, e, R, hn, st⟩ => ?_
  subst e
  exact ⟨.ref s.heap.objs.size, _, I.laid (t' := tk) (o := SetO X.w s.heap.objs.size (fun j => decide (j ∈ ns)) n) st (Nat.le_refl _) (setO_new R), rfl, q _ n (I.hok.fresh (Nat.le_refl _)) hn⟩
/-- the ints of a list, each once, ascending -/
def insI (k : Int) : List Int → List Int
  | [] => [k]
  | j :: r => if k < j then k :: j :: r else if k = j then j :: r else j :: insI k r
def sortU (ns : List Int) : List Int := ns.foldr insI []
theorem insI_mem {k j : Int} : ∀ {l : List Int}, j ∈ insI k l ↔ j = k ∨ j ∈ l
  | [] => by simp [insI]
  | i :: r => by
    unfold insI
    split
    · simp
    · split
      · rename_i h; subst h; simp
      · rw [List.mem_cons, insI_mem, List.mem_cons]
        constructor
        · rintro (h | h | h) <;> simp [h]
        · rintro (h | h | h) <;> simp [h]
theorem insI_asc {k : Int} : ∀ {l : List Int}, l.Pairwise (· < ·) → (insI k l).Pairwise (· < ·)
  | [], _ => by simp [insI]
  | i :: r, h => by
    obtain ⟨h1, h2⟩ := List.pairwise_cons.mp h
    unfold insI
    split
    · rename_i z
      exact List.pairwise_cons.mpr ⟨fun y hy => (List.mem_cons.mp hy).elim (fun e => by rw [e]; exact z) fun q => Int.lt_trans z (h1 y q), h⟩
    · split
      · exact h
      · rename_i z1 z2
        refine List.pairwise_cons.mpr ⟨fun y hy => ?_, insI_asc h2⟩
        rcases insI_mem.mp hy with e | e
        · rw [e]; omega
        · exact h1 y e
theorem sortU_mem {j : Int} : ∀ {ns : List Int}, j ∈ sortU ns ↔ j ∈ ns
  | [] => by simp [sortU]
  | k :: r => by
    show j ∈ insI k (sortU r) ↔ _
    rw [insI_mem, sortU_mem, List.mem_cons]
theorem sortU_asc : ∀ ns : List Int, (sortU ns).Pairwise (· < ·)
  | [] => .nil
  | k :: r => insI_asc (sortU_asc r)
theorem asc_eq : ∀ {l m : List Int}, l.Pairwise (· < ·) → m.Pairwise (· < ·) → (∀ k, k ∈ l ↔ k ∈ m) → l = m
  | [], [], _, _, _ => rfl
  | [], b :: m, _, _, h => absurd ((h b).mpr List.mem_cons_self) (fun z => nomatch z)
  | a :: l, [], _, _, h => absurd ((h a).mp List.mem_cons_self) (fun z => nomatch z)
  | a :: l, b :: m, hl, hm, h => by
    obtain ⟨l1, l2⟩ := List.pairwise_cons.mp hl
    obtain ⟨m1, m2⟩ := List.pairwise_cons.mp hm
    have e : a = b := by
      rcases List.mem_cons.mp ((h a).mp List.mem_cons_self) with z | z
      · exact z
      · rcases List.mem_cons.mp ((h b).mpr List.mem_cons_self) with y | y
        · exact y.symm
        · have := m1 a z; have := l1 b y; omega
    subst e
    refine congrArg _ (asc_eq l2 m2 fun k => ⟨fun z => ?_, fun z => ?_⟩)
    · rcases List.mem_cons.mp ((h k).mp (List.mem_cons_of_mem _ z)) with y | y
      · have := l1 k z; omega
      · exact y
    · rcases List.mem_cons.mp ((h k).mpr (List.mem_cons_of_mem _ z)) with y | y
      · have := m1 k z; omega
      · exact y
def sortSet : D → Option O
  | .lst l => match intsD l with
    | some ns => if l.length < 63 then some (.ol ((sortU ns).map D.int)) else none
    | none => none
  | _ => none
def sortSetE (g : DE) : OE := fun ρ => match g ρ with
  | some (d, ρ1) => (sortSet d).map fun o => (o, ρ1)
  | none => none
theorem cvSortSet {ex : Expr} {g : DE} {τ : Bool} (h : PE X ex (tCB (rSortedSet X.w) (tCons (tCB (rSetI X.K X.w) (tCons (tD X.K τ g) tNil)) tNil))) : XO X ex τ (sortSetE g) := imE h fun σ H Q ⟨B, M, F, ρ, o, ρ', er, eg, k⟩ => by
  unfold sortSetE at eg
  split at eg
  · rename_i d ρ1 e1
    obtain ⟨o', e2, e3⟩ := Option.map_eq_some_iff.mp eg
    cases e3
    unfold sortSet at e2
    split at e2
    · rename_i l
      split at e2
      · rename_i ns e4
        split at e2
        · rename_i hs
          cases e2
          refine ⟨B, M, F, ρ, _, _, er, e1, fun v H1 M1 F1 p1 r1 => ?_⟩
          cases r1 with
          | @lst a xs _ ma ha rs =>
            have ev := ints_at rs e4
            subst ev
            have hl : ns.length = l.length := by have := rs.length; rwa [List.length_map] at this
            refine ⟨a, ns, rfl, .of ha, Nat.lt_of_le_of_lt (show ns.length + 1 ≤ 64 by omega) (by decide), fun p n hp hn => ?_⟩
            refine ⟨p, _, n, rfl, upd_same, by omega, fun ms q hm1 hm2 hm3 hq => ?_⟩
            have em : ms = sortU ns := asc_eq hm1 (sortU_asc ns) fun k => by rw [hm2, sortU_mem]; simp
            subst em
            have s1 : Step NoF M1 H1 M1 (upd H1 p (SetO X.w p (fun j => decide (j ∈ ns)) n)) := .laid hp
            have m1 := mtr' s1 p1.er.mtr
            have p2 := Post.trans er p1 (Post.keep false p1.er s1 m1)
            refine newOl (K := X.K) (M := M1) m1 hq (reps_ints (sortU ns)) fun v H' M' G s mt ow gm => ?_
            have p3 := Post.trans er p2 (Post.keep false p2.er s mt)
            simp only [Bool.or_false] at p3
            exact k v H' M' F1 G p3 ow (fun i a z q => p2.er.trk z (gm a q).2) fun a z => ⟨(gm a z).1, p2.step.fresh (gm a z).2⟩
        · cases e2
      · cases e2
    · cases e2
  · cases eg
end
end Dl
/-! text DL23 -/
set_option Elab.async false
set_option linter.all false
set_option maxRecDepth 100000
set_option maxHeartbeats 1000000
/-! The data layer: names of the module, what the head tells of them. -/
namespace Dl
open PySem PySem.Spec PyProof.Rows L2

/-- what is known of the module behind its top -/
structure En (fa : List He.Fa) (pr : List (Str × Str)) (fn : List Dz.Df) (K : PySem.W.Frag) (mg : Str → Option Value) : Prop where
  ex : ∃ h : Heap, K.In h ∧ h.Ns mainGlobals mg ∧ Dz.Says fa pr fn K
section
variable {fa : List He.Fa} {pr : List (Str × Str)} {fn : List Dz.Df} {K : PySem.W.Frag} {mg : Str → Option Value}
theorem En.glo (e : En fa pr fn K mg) (i : Nat) {x : Str} (h : fa[i]? = some (.glo x) := by rfl) : mg x = some (.ref (He.ga K x)) := let ⟨_, X, G, c⟩ := e.ex; He.glo_ok X G (c.fact i h)
theorem En.free (e : En fa pr fn K mg) (i : Nat) {x : Str} (h : fa[i]? = some (.free x) := by rfl) : mg x = none := let ⟨_, X, G, c⟩ := e.ex; He.free_ok X G (c.fact i h)
theorem En.int (e : En fa pr fn K mg) (i : Nat) {x : Str} {n : Int} (h : fa[i]? = some (.int x n) := by rfl) : ∃ t, mg x = some (.int n t) := let ⟨_, X, G, c⟩ := e.ex; He.int_ok X G (c.fact i h)
theorem En.str (e : En fa pr fn K mg) (i : Nat) {x z : Str} (h : fa[i]? = some (.str x z) := by rfl) : ∃ t, mg x = some (.str z t) := let ⟨_, X, G, c⟩ := e.ex; He.str_ok X G (c.fact i h)
theorem En.cls (e : En fa pr fn K mg) (i : Nat) {x : Str} (h : fa[i]? = some (.cls x) := by rfl) : Cls K (He.ga K x) := let ⟨_, _, _, c⟩ := e.ex; He.cls_ok (c.fact i h)
theorem En.noat (e : En fa pr fn K mg) (i : Nat) {x f : Str} (h : fa[i]? = some (.noat x f) := by rfl) : NoAttr K (He.ga K x) f := let ⟨_, _, _, c⟩ := e.ex; He.noat_ok (c.fact i h)
theorem En.meth (e : En fa pr fn K mg) (i : Nat) {x m : Str} (h : fa[i]? = some (.meth x m) := by rfl) : Meth K (He.ga K x) m (He.ma K (He.ga K x) m) := let ⟨_, _, _, c⟩ := e.ex; He.meth_ok (c.fact i h)
theorem En.mkr (e : En fa pr fn K mg) (i : Nat) {x : Str} (h : fa[i]? = some (.mkr x) := by rfl) : Mk K (He.ga K x) (He.ma K (He.ga K x) "__init__") := let ⟨_, _, _, c⟩ := e.ex; He.mkr_ok (c.fact i h)
theorem En.prop (e : En fa pr fn K mg) (i : Nat) {x f : Str} (h : pr[i]? = some (x, f) := by rfl) (hn : f ≠ ("" : Str) := by decide) : PropOf K (He.ga K x) f (Dz.pAd K x f) (Dz.gAd K (Dz.pAd K x f)) := let ⟨_, _, _, c⟩ := e.ex; c.prop i h hn
theorem En.is_ (e : En fa pr fn K mg) (i : Nat) {x : Str} (h : pr[i]? = some (x, ("" : Str)) := by rfl) : Dz.IsOf K (He.ga K x) := let ⟨_, _, _, c⟩ := e.ex; c.is_ i h
theorem En.def_ (e : En fa pr fn K mg) (i : Nat) {d : Dz.Df} (h : fn[i]? = some d := by rfl) : ∃ fd, Fun K d.name d.qual d.st (d.at_.ad K) fd := let ⟨_, _, _, c⟩ := e.ex; c.def_ i h
end
section
variable {X : Cx} {e a b o : Expr} {es : List Expr} {τ τ' : Bool} {p pos p2 : Pos} {x c : Str} {i : Nat} {g : DE}
theorem x_gI {n : Int} (hg : Gl X x) (hm : ∃ t, X.mg x = some (.int n t)) (hd : (x == ("__debug__" : Str)) = false := by decide) : XD X (.Name x pos) false (cE (.int n)) := hm.elim fun t h => x_c (pe_glob (v := .int n) hg h ⟨t, rfl⟩ hd) fun _ _ _ => .int n
theorem x_gS {z : Str} (hg : Gl X x) (hm : ∃ t, X.mg x = some (.str z t)) (hd : (x == ("__debug__" : Str)) = false := by decide) : XD X (.Name x pos) false (cE (.str z)) := hm.elim fun t h => x_c (pe_glob (v := .str z) hg h ⟨t, rfl⟩ hd) fun _ _ _ => .str z
theorem x_ty {T : String} (hg : Gl X x) (hm : X.mg x = none) (hv : bootBuiltins x = some (.type T)) (hn : x ≠ "__name__" := by decide) (hd : (x == ("__debug__" : Str)) = false := by decide) : XD X (.Name x pos) false (cE (.ty T)) := x_c (pe_bltn (v := .ty T) hg hm hv rfl hn hd) fun _ _ _ => .ty T
/-- isinstance(x, C), C an own class, x of it -/
def isOwn (c : Str) (g : DE) : DE := fun ρ => match g ρ with
  | some (.obj c' _, ρ1) => if c' = c then some (.bl true, ρ1) else none
  | _ => none
theorem x_isO (I : Dz.IsOf X.K (He.ga X.K c)) (cl : Cls X.K (He.ga X.K c)) (hgi : Gl X "isinstance") (hmi : X.mg "isinstance" = none) (ha : XD X a τ g) (hgc : Gl X c) (hmc : X.mg c = some (.ref (He.ga X.K c))) (hd : (c == ("__debug__" : Str)) = false := by decide)
    (hs : starEach [a, .Name c p2] X.env = (false, eval a X.env) :: starEach [.Name c p2] X.env := by rfl) (hpl : (backTo pos (starEach [.Name c p2] X.env)).any (·.1) = false := by rfl) :
    XD X (.Call (.Name "isinstance" p) [a, .Name c p2] [] pos) τ (isOwn c g) :=
  imE (pe_callB call_isi hgi hmi boot_isinstance (pa_cons ha (pa_cons (pe_glob (v := .ref (He.ga X.K c)) hgc hmc rfl hd) pa_nil) hs) (by decide) (by decide) hs hpl) fun σ H Q ⟨B, M, F, ρ, d, ρ', er, eg, k⟩ => by
    unfold isOwn at eg
    split at eg
    · rename_i c' fs ρ1 e1
      split at eg
      · rename_i ec
        subst ec
        cases eg
        refine ⟨B, M, F, ρ, _, _, er, e1, fun v H1 M1 F1 p1 r1 => ?_⟩
        cases r1 with
        | obj m ha hk rs => exact ⟨_, _, _, _, true, rfl, .own _, .base (.ins ha cl I.ha I.hn I.ht I.hm), I.one, k _ H1 M1 F1 p1 (.bl true)⟩
      · cases eg
    · cases eg
end
end Dl
/-! text DL24 -/
set_option Elab.async false
set_option linter.all false
set_option maxRecDepth 100000
set_option maxHeartbeats 1000000
/-! The data layer: list(range), tuple(range), signs of a text, - of an int. -/
namespace Dl
open PySem PySem.Spec PyProof.Rows L2

theorem reps_range {K : PySem.W.Frag} {M : Addr → Prop} {H : Hp} (a b : Int) : Reps K M H (rgV a b) (rangeD a (b - a).toNat) := by
  unfold rgV rangeD
  generalize List.range (b - a).toNat = l
  induction l with
  | nil => exact .nil
  | cons i r ih => exact .cons (.int _) ih
def rgOk (a b : Int) : Bool := decide (0 ≤ a ∧ a ≤ 100000 ∧ -100000 ≤ b ∧ b ≤ 100000)
theorem rgOk_ok {a b : Int} (h : rgOk a b = true) : RgOk a b := by
  have := of_decide_eq_true h
  unfold RgOk
  omega
abbrev RgE := List W → Option ((Int × Int) × List W)
def rg1 (g : DE) : RgE := fun ρ => match g ρ with
  | some (.int n, ρ1) => some ((0, n), ρ1)
  | _ => none
def rg2 (g g' : DE) : RgE := fun ρ => match g ρ with
  | some (.int m, ρ1) => (match g' ρ1 with
    | some (.int n, ρ2) => some ((m, n), ρ2)
    | _ => none)
  | _ => none
abbrev TR := L2.St → Hp → (Int → Int → Hp → Prop) → Prop
def tRg (K : PySem.W.Frag) (τ : Bool) (g : RgE) : TR := fun σ H Q => ∃ B M F ρ a b ρ', ER K B M F H σ ρ ∧ g ρ = some ((a, b), ρ') ∧ ∀ H' M' F', Post τ K B M F H σ ρ M' F' H' ρ' → Q a b H'
abbrev XRg (X : Cx) (e : Expr) (τ : Bool) (g : RgE) : Prop := PRg X e (tRg X.K τ g)
def lstRg (g : RgE) : OE := fun ρ => match g ρ with
  | some ((a, b), ρ1) => if rgOk a b then some (.ol (rangeD a (b - a).toNat), ρ1) else none
  | none => none
def tupRg (g : RgE) : DE := fun ρ => match g ρ with
  | some ((a, b), ρ1) => if rgOk a b then some (.tup (rangeD a (b - a).toNat), ρ1) else none
  | none => none
section
variable {X : Cx} {e a b : Expr} {τ τ' : Bool} {p pos : Pos} {g g' : DE} {r : RgE}
theorem r_1 (hg : Gl X "range") (hm : X.mg "range" = none) (ha : XD X a τ g) (na : starEach [a] X.env = (false, eval a X.env) :: starEach [] X.env := by rfl) : XRg X (.Call (.Name "range" p) [a] [] pos) τ (rg1 g) :=
  fun pins s σ H Q I h => prg_1 hg hm ha na pins s σ H Q I (by
    obtain ⟨B, M, F, ρ, i, j, ρ', er, eg, k⟩ := h
    unfold rg1 at eg
    split at eg
    · rename_i n ρ1 e1
      cases eg
      exact ⟨B, M, F, ρ, _, _, er, e1, fun v H1 M1 F1 p1 r1 => by cases r1; exact ⟨_, rfl, k H1 M1 F1 p1⟩⟩
    · cases eg)
theorem r_2 (hg : Gl X "range") (hm : X.mg "range" = none) (ha : XD X a τ g) (hb : XD X b τ' g') (na : starEach [a, b] X.env = (false, eval a X.env) :: starEach [b] X.env := by rfl)
    (nb : starEach [b] X.env = (false, eval b X.env) :: starEach [] X.env := by rfl) (hp : (backTo pos (starEach [b] X.env)).any (·.1) = false := by rfl) : XRg X (.Call (.Name "range" p) [a, b] [] pos) (τ || τ') (rg2 g g') :=
  fun pins s σ H Q I h => prg_2 hg hm ha hb na nb hp pins s σ H Q I (by
    obtain ⟨B, M, F, ρ, i, j, ρ', er, eg, k⟩ := h
    unfold rg2 at eg
    split at eg
    · rename_i m ρ1 e1
      split at eg
      · rename_i n ρ2 e2
        cases eg
        exact ⟨B, M, F, ρ, _, _, er, e1, fun v H1 M1 F1 p1 r1 => ⟨B, M1, F1, ρ1, _, _, p1.er, e2, fun v2 H2 M2 F2 p2 r2 => by cases r1; cases r2; exact ⟨_, _, rfl, rfl, k H2 M2 F2 (p1.trans er p2)⟩⟩⟩
      · cases eg
    · cases eg)
theorem x_lstRg (hc : X.calm = true) (hg : Gl X "list") (hm : X.mg "list" = none) (he : XRg X e τ r) (na : starEach [e] X.env = (false, eval e X.env) :: starEach [] X.env := by rfl) : XO X (.Call (.Name "list" p) [e] [] pos) τ (lstRg r) := imE (pe_listRg hc hg hm he na) fun σ H Q ⟨B, M, F, ρ, o, ρ', er, eg, k⟩ => by
  unfold lstRg at eg
  split at eg
  · rename_i i j ρ1 e1
    split at eg
    · rename_i hs
      cases eg
      refine ⟨B, M, F, ρ, _, _, _, er, e1, fun H1 M1 F1 p1 => ⟨rgOk_ok hs, fun q hq => newOl (K := X.K) p1.er.mtr hq (reps_range i j) fun v H2 M2 G s mt ow gm => ?_⟩⟩
      have pk := Post.trans er p1 (Post.keep false p1.er s mt)
      rw [Bool.or_false] at pk
      exact k v H2 M2 F1 G pk ow (fun i a z q => p1.er.trk z (gm a q).2) fun a z => ⟨(gm a z).1, p1.step.fresh (gm a z).2⟩
    · cases eg
  · cases eg
theorem x_tupRg (hc : X.calm = true) (hg : Gl X "tuple") (hm : X.mg "tuple" = none) (he : XRg X e τ r) (na : starEach [e] X.env = (false, eval e X.env) :: starEach [] X.env := by rfl) : XD X (.Call (.Name "tuple" p) [e] [] pos) τ (tupRg r) := imE (pe_tupRg hc hg hm he na) fun σ H Q ⟨B, M, F, ρ, o, ρ', er, eg, k⟩ => by
  unfold tupRg at eg
  split at eg
  · rename_i i j ρ1 e1
    split at eg
    · rename_i hs
      cases eg
      refine ⟨B, M, F, ρ, _, _, _, er, e1, fun H1 M1 F1 p1 => ⟨rgOk_ok hs, fun q hq => ?_⟩⟩
      obtain ⟨s, rr⟩ := newTup p1.er.mtr hq (reps_range (K := X.K) i j)
      have pk := Post.trans er p1 (Post.keep false p1.er s (mtr' s p1.er.mtr))
      rw [Bool.or_false] at pk
      exact k _ _ M1 F1 pk rr
    · cases eg
  · cases eg
end
/-! ### signs of a text -/
def signsD (z : Str) : List D := z.cps.toList.map fun c => .str ⟨#[c]⟩
def seqS' : D → Option (List D)
  | .str z => some (signsD z)
  | d => seqD d
section
variable {X : Cx} {tg e : Expr} {τ : Bool} {g : DE}
theorem wk_str {K : PySem.W.Frag} {M : Addr → Prop} {H : Hp} (z : Str) : Wk K M H (Its z) (signsD z) :=
  wk_of (walk_str (z := z)) (by simp [signsD]) fun F M1 H1 t mt => ⟨trivial, fun i x H2 hi y => by
    obtain ⟨rfl, c, hc, rfl⟩ := y
    refine ⟨.refl, .str ⟨#[c]⟩, ?_, .str _⟩
    unfold signsD
    rw [List.getElem?_map, Array.getElem?_toList, hc]
    rfl⟩
theorem i_any (h : XD X e τ g) : XI X tg e τ (itE seqS' g) := imI (orPI (i_seq h) (pi_str h)) fun σ H R ⟨B, M, F, ρ, ds, ρ', er, eg, k⟩ => by
  unfold itE at eg
  split at eg
  · rename_i d ρ1 e1
    obtain ⟨ds', e2, e3⟩ := Option.map_eq_some_iff.mp eg
    cases e3
    unfold seqS' at e2
    split at e2
    · cases e2
      exact .inr ⟨B, M, F, ρ, _, _, er, e1, fun v H1 M1 F1 p1 r1 => by cases r1; exact ⟨_, rfl, k _ H1 M1 F1 p1 (wk_str _)⟩⟩
    · refine .inl ⟨B, M, F, ρ, _, _, er, ?_, k⟩
      unfold itE
      rw [e1]
      dsimp only
      rw [e2]; rfl
  · cases eg
end
/-! ### -i -/
def negI : D → Option D
  | .int i => some (.int (-i))
  | _ => none
theorem ud_neg {K : PySem.W.Frag} : UD K (rU fun i => .int (-i)) negI := fun M H x dx d Q m rx e k => by
  unfold negI at e
  split at e
  · cases e; cases rx
    exact ⟨_, rfl, k _ H .refl (.int _)⟩
  · cases e
end Dl
/-! text DL25 -/
set_option Elab.async false
set_option linter.all false
set_option maxRecDepth 100000
set_option maxHeartbeats 1000000
/-! The data layer: how the combinators run (for simp). -/
namespace Dl
open PySem PySem.Spec PyProof.Rows L2
section
variable {ρ ρ1 : List W} {g g' ga gb gc : DE} {o : OE} {l : LE} {t t' : BE} {d : D} {i j n m : Nat}
-- statements
@[simp] theorem ev_seq {s s' : DS} : seqS s s' ρ = (match s ρ with | some (.nx ρ1) => s' ρ1 | r => r) := rfl
@[simp] theorem ev_skip : skipS ρ = some (.nx ρ) := rfl
@[simp] theorem ev_stuck : stuckS ρ = none := rfl
@[simp] theorem ev_ret : retS o ρ = (o ρ).map fun p => .rt p.1 p.2 := rfl
@[simp] theorem ev_retV : retV i ρ = (match ρ[i]? with | some (.w false o) => some (.rt o (ρ.set i .un)) | _ => none) := rfl
@[simp] theorem ev_drop : dropS g ρ = (g ρ).map fun p => .nx p.2 := rfl
@[simp] theorem ev_if {s s' : DS} : ifS t s s' ρ = (match t ρ with | some (true, ρ1) => s ρ1 | some (false, ρ1) => s' ρ1 | none => none) := rfl
@[simp] theorem ev_asg : asgS i o ρ = (match o ρ with | some (x, ρ1) => if nb ρ1 i then some (.nx (ρ1.set i (.w false x))) else none | none => none) := rfl
@[simp] theorem ev_par {l : LOE} : parO i j l ρ = (match l ρ with | some ([x, y], ρ1) => if nb ρ1 i && nb ρ1 j then some (.nx ((ρ1.set i (.w false x)).set j (.w false y))) else none | _ => none) := rfl
@[simp] theorem ev_par3 {l : LOE} : parO3 i j m l ρ = (match l ρ with | some ([x, y, z], ρ1) => if nb ρ1 i && nb ρ1 j && nb ρ1 m then some (.nx (((ρ1.set i (.w false x)).set j (.w false y)).set m (.w false z))) else none | _ => none) := rfl
@[simp] theorem ev_asG {b : BS} : asG g b ρ = (match g ρ with | some (d, ρ1) => (b d ρ1).map .nx | none => none) := rfl
@[simp] theorem ev_nmB : nmB i d ρ = if nb ρ i then some (ρ.set i (.w false (.sh d))) else none := rfl
@[simp] theorem ev_bN : bN i d ρ = some (ρ.set i (.w false (.sh d))) := rfl
@[simp] theorem ev_bNil : bNil [] ρ = some ρ := rfl
@[simp] theorem ev_bCons {b : BS} {bs : BSs} {ds : List D} : bCons b bs (d :: ds) ρ = (b d ρ).bind fun ρ1 => bs ds ρ1 := rfl
@[simp] theorem ev_bT {bs : BSs} {ds : List D} : bT n bs (.tup ds) ρ = if ds.length = n then bs ds ρ else none := rfl
@[simp] theorem ev_stB {π : Pth} : stB π g d ρ = (match pget π ρ with | some o => (match g ρ with | some (k, _) => (putO o k d).map fun o' => pput π o' ρ | none => none) | none => none) := rfl
@[simp] theorem ev_app {π : Pth} : appS π g ρ = (match pget π ρ with | some (.ol _) => (match g ρ with | some (d, ρ1) => (match pget π ρ1 with | some (.ol l) => if small l.length then some (.nx (pput π (.ol (l ++ [d])) ρ1)) else none | _ => none) | none => none) | _ => none) := rfl
@[simp] theorem ev_ext {π : Pth} : extS π g ρ = (match pget π ρ with | some (.ol _) => (match g ρ with | some (.lst d, ρ1) => (match pget π ρ1 with | some (.ol l) => if small (l.length + d.length) then some (.nx (pput π (.ol (l ++ d)) ρ1)) else none | _ => none) | _ => none) | _ => none) := rfl
@[simp] theorem ev_setF {c f : Str} : setF i c f o ρ = if has ρ i then (match o ρ with | some (x, ρ1) => (match ρ1[i]? with | some (W.w b (.ob c' l)) => if c' = c ∧ l.length < 100 then some (.nx (ρ1.set i (.w b (.ob c' (fput f x l))))) else none | _ => none) | none => none) else none := rfl
@[simp] theorem ev_for {b : BS} {s : DS} : forS l b s ρ = (match l ρ with | none => none | some (ds, ρ1) => forR b s ds ρ1) := rfl
-- expressions
@[simp] theorem ev_c : cE d ρ = some (d, ρ) := rfl
@[simp] theorem ev_v : vE i ρ = (match ρ[i]? with | some (.w _ (.sh d)) => some (d, ρ) | _ => none) := rfl
@[simp] theorem ev_vF : vF i ρ = (match ρ[i]? with | some (.w false o) => some (o.frz, ρ.set i (.w false (.sh o.frz))) | _ => none) := rfl
@[simp] theorem ev_fr : frE o ρ = (o ρ).map fun p => (p.1.frz, p.2) := rfl
@[simp] theorem ev_sh : shE g ρ = (g ρ).map fun p => (.sh p.1, p.2) := rfl
@[simp] theorem ev_bE : bE g ρ = (match g ρ with | some (.bl b, ρ1) => some (b, ρ1) | _ => none) := by unfold bE; rfl
@[simp] theorem ev_nil : nilL ρ = some ([], ρ) := rfl
@[simp] theorem ev_nilO : nilO ρ = some ([], ρ) := rfl
@[simp] theorem ev_consO {l : LOE} : consO o l ρ = (match o ρ with | some (x, ρ1) => (l ρ1).map fun p => (x :: p.1, p.2) | none => none) := rfl
@[simp] theorem ev_cons : consL g l ρ = (match g ρ with | none => none | some (d, ρ1) => (l ρ1).map fun p => (d :: p.1, p.2)) := by unfold consL; rfl
@[simp] theorem ev_star : starL g l ρ = (match g ρ with | some (.tup xs, ρ1) => (l ρ1).map fun p => (xs ++ p.1, p.2) | some (.lst xs, ρ1) => (l ρ1).map fun p => (xs ++ p.1, p.2) | _ => none) := rfl
@[simp] theorem ev_tup : tupE l ρ = (match l ρ with | none => none | some (ds, ρ1) => if small ds.length then some (.tup ds, ρ1) else none) := rfl
@[simp] theorem ev_lst : lstE l ρ = (match l ρ with | none => none | some (ds, ρ1) => if small ds.length then some (.ol ds, ρ1) else none) := rfl
@[simp] theorem ev_callP {f : List D → Option O} : callP n f l ρ = (match l ρ with | some (ds, ρ1) => if ds.length = n then (f ds).map fun o => (o, ρ1) else none | none => none) := rfl
@[simp] theorem ev_callB {f : List D → Option O} : callB f l ρ = (match l ρ with | some (ds, ρ1) => (f ds).map fun o => (o, ρ1) | none => none) := rfl
@[simp] theorem ev_sh1 {f : D → Option D} {x : D} : sh1 f [x] = (f x).map .sh := rfl
@[simp] theorem ev_sh2 {f : D → D → Option D} {x y : D} : sh2 f [x, y] = (f x y).map .sh := rfl
@[simp] theorem ev_pE {π : Pth} : pE π ρ = (match pget π ρ with | some (.sh d) => some (d, ρ) | _ => none) := rfl
@[simp] theorem ev_pgS : pget (.sl i) ρ = gSl i ρ := rfl
@[simp] theorem ev_pgF {c f : Str} : pget (.fd i c f) ρ = gFd i c f ρ := rfl
@[simp] theorem ev_gSl : gSl i ρ = (match ρ[i]? with | some (W.w _ o) => some o | _ => none) := rfl
@[simp] theorem ev_gFd {c f : Str} : gFd i c f ρ = (match ρ[i]? with | some (W.w _ (.ob c' l)) => if c' = c then fget f l else none | some (W.w _ (.sh (.obj c' l))) => if c' = c then (fget f l).map .sh else none | _ => none) := rfl
@[simp] theorem ev_ppS {x : O} : pput (.sl i) x ρ = uSl i x ρ := rfl
@[simp] theorem ev_ppF {c f : Str} {x : O} : pput (.fd i c f) x ρ = uFd i f x ρ := rfl
@[simp] theorem ev_uSl {x : O} : uSl i x ρ = (match ρ[i]? with | some (W.w b _) => ρ.set i (.w b x) | _ => ρ) := rfl
@[simp] theorem ev_uFd {f : Str} {x : O} : uFd i f x ρ = (match ρ[i]? with | some (W.w b (.ob c' l)) => ρ.set i (.w b (.ob c' (fput f x l))) | _ => ρ) := rfl
@[simp] theorem ev_subP {π : Pth} : subP π g ρ = (match pget π ρ with | some o => (match g ρ with | some (k, _) => (subO o k).map fun d => (d, ρ) | none => none) | none => none) := rfl
@[simp] theorem ev_inP {b : Bool} {π : Pth} : inP b g π ρ = (match g ρ with | some (k, ρ1) => (match pget π ρ1 with | some o => (inO b o k).map fun d => (d, ρ1) | none => none) | none => none) := rfl
@[simp] theorem ev_neO {π : Pth} : neO π ρ = (match pget π ρ with | some (.ok l) => some (.bl (decide (l.length ≠ 0)), ρ) | some (.ot l) => some (.bl (decide (l.length ≠ 0)), ρ) | _ => none) := rfl
@[simp] theorem ev_lenP {π : Pth} : lenP π ρ = (match pget π ρ with | some o => (lenO o).map fun d => (d, ρ) | none => none) := rfl
@[simp] theorem ev_op1 {f : D → Option D} : op1 f g ρ = (match g ρ with | none => none | some (x, ρ1) => (f x).map fun d => (d, ρ1)) := by unfold op1; rfl
@[simp] theorem ev_op2 {f : D → D → Option D} : op2 f g g' ρ = (match g ρ with | none => none | some (x, ρ1) => (match g' ρ1 with | none => none | some (y, ρ2) => (f x y).map fun d => (d, ρ2))) := by unfold op2; rfl
@[simp] theorem ev_andB : andB t t' ρ = (match t ρ with | some (true, ρ1) => t' ρ1 | some (false, ρ1) => some (false, ρ1) | none => none) := rfl
@[simp] theorem ev_notB : notB t ρ = (t ρ).map fun p => (!p.1, p.2) := rfl
@[simp] theorem ev_yes : yesB ρ = some (true, ρ) := rfl
@[simp] theorem ev_it {f : D → Option (List D)} : itE f g ρ = (match g ρ with | some (d, ρ1) => (f d).map fun ds => (ds, ρ1) | none => none) := rfl
@[simp] theorem ev_itL {f : List D → Option (List D)} : itL f l ρ = (match l ρ with | some (ds, ρ1) => (f ds).map fun es => (es, ρ1) | none => none) := rfl
@[simp] theorem ev_noPa : noPa ρ = some (none, ρ) := rfl
@[simp] theorem ev_atPa : atPa g ρ = (match g ρ with | some (.int i, ρ1) => some (some i, ρ1) | _ => none) := rfl
@[simp] theorem ev_sl {pl ph : PaE} : slE g pl ph ρ = (match g ρ with | some (d, ρ1) => (match pl ρ1 with | some (lo, ρ2) => (match ph ρ2 with | some (hi, ρ3) => (slO d lo hi).map fun o => (o, ρ3) | none => none) | none => none) | none => none) := rfl
@[simp] theorem ev_propE {c : Str} {f : List D → Option O} : propE c f g ρ = (match g ρ with | some (.obj c' fs, ρ1) => if c' = c then (f [.obj c' fs]).map fun o => (o, ρ1) else none | _ => none) := rfl
@[simp] theorem ev_isOwn {c : Str} : isOwn c g ρ = (match g ρ with | some (.obj c' _, ρ1) => if c' = c then some (.bl true, ρ1) else none | _ => none) := rfl
@[simp] theorem ev_fld {c f : Str} : fldE c f g ρ = (match g ρ with | some (.obj c' l, ρ1) => if c' = c then (fget f l).map fun d => (d, ρ1) else none | _ => none) := rfl
@[simp] theorem ev_methP {c f : Str} {mp : List D → Option O} : methP c f n mp g l ρ = (match g ρ with | some (.obj c' fs, ρ1) => if c' = c ∧ fget f fs = none then (match l ρ1 with | some (ds, ρ2) => if ds.length + 1 = n then (mp (.obj c' fs :: ds)).map fun o => (o, ρ2) else none | none => none) else none | _ => none) := rfl
@[simp] theorem frz_sh : (O.sh d).frz = d := by unfold O.frz; rfl
@[simp] theorem frz_ol {l : List D} : (O.ol l).frz = .lst l := by unfold O.frz; rfl
@[simp] theorem frz_ok {l : List (Key × D)} : (O.ok l).frz = .dk l := by unfold O.frz; rfl
@[simp] theorem frz_ot {l : List (List Key × D)} : (O.ot l).frz = .dt l := by unfold O.frz; rfl
@[simp] theorem ii_le {i j : Int} : leI (.int i) (.int j) = some (.bl (decide (i ≤ j))) := rfl
@[simp] theorem ii_lt {i j : Int} : ltI (.int i) (.int j) = some (.bl (decide (i < j))) := rfl
@[simp] theorem ii_gt {i j : Int} : gtI (.int i) (.int j) = some (.bl (decide (j < i))) := rfl
@[simp] theorem ii_ge {i j : Int} : geI (.int i) (.int j) = some (.bl (decide (j ≤ i))) := rfl
@[simp] theorem ii_sub {i j : Int} : subI (.int i) (.int j) = some (.int (i - j)) := rfl
@[simp] theorem ii_add {i j : Int} : addD (.int i) (.int j) = some (.int (i + j)) := rfl
end
/-- a comprehension without a trace: item by item -/
theorem lcR_pure {vs : List Nat} {b : BS} {gt : BE} {ge : DE} {ρ : List W} {F : D → Option D} : ∀ {ds : List D}, (∀ d ∈ ds, (F d = none ∧ ∃ ρ1 ρ2, b d ρ = some ρ1 ∧ gt ρ1 = some (false, ρ2) ∧ wipeW ρ2 vs = ρ) ∨
    ∃ x, F d = some x ∧ ∃ ρ1 ρ2 ρ3, b d ρ = some ρ1 ∧ gt ρ1 = some (true, ρ2) ∧ ge ρ2 = some (x, ρ3) ∧ wipeW ρ3 vs = ρ) → lcR vs b gt ge ds ρ = some (ds.filterMap F, ρ)
  | [], _ => rfl
  | d :: ds, h => by
    have ih := lcR_pure (ds := ds) fun x hx => h x (List.mem_cons_of_mem _ hx)
    unfold lcR
    rcases h d List.mem_cons_self with ⟨f, ρ1, ρ2, h1, h2, h3⟩ | ⟨x, f, ρ1, ρ2, ρ3, h1, h2, h3, h4⟩
    · rw [h1]
      simp only [h2, h3, ih, List.filterMap_cons, f]
    · rw [h1]
      simp only [h2, h3, h4, ih, List.filterMap_cons, f, Option.map_some]
/-- .. that takes all -/
theorem lcR_map {vs : List Nat} {b : BS} {ge : DE} {ρ : List W} {F : D → D} {ds : List D} (h : ∀ d ∈ ds, ∃ ρ1 ρ3, b d ρ = some ρ1 ∧ ge ρ1 = some (F d, ρ3) ∧ wipeW ρ3 vs = ρ) : lcR vs b yesB ge ds ρ = some (ds.map F, ρ) := by
  rw [lcR_pure (F := fun d => some (F d)) fun d hd => .inr ?_]
  · rw [show ds.filterMap (fun d => some (F d)) = ds.map F from by induction ds <;> simp_all]
  · obtain ⟨ρ1, ρ3, h1, h2, h3⟩ := h d hd
    exact ⟨F d, rfl, ρ1, ρ1, ρ3, h1, rfl, h2, h3⟩
/-- a comprehension over xs, each told by enc; what it gives is F of each -/
theorem lcE_pure {X : Type} {vs : List Nat} {g : LE} {b : BS} {gt : BE} {ge : DE} {ρ ρ1 : List W} {xs : List X} {enc : X → D} {F : X → Option D} (hg : g ρ = some (xs.map enc, ρ1)) (hs : small xs.length = true)
    (h : ∀ x ∈ xs, (F x = none ∧ ∃ ρ2 ρ3, b (enc x) (wipeW ρ1 vs) = some ρ2 ∧ gt ρ2 = some (false, ρ3) ∧ wipeW ρ3 vs = wipeW ρ1 vs) ∨
      ∃ y, F x = some y ∧ ∃ ρ2 ρ3 ρ4, b (enc x) (wipeW ρ1 vs) = some ρ2 ∧ gt ρ2 = some (true, ρ3) ∧ ge ρ3 = some (y, ρ4) ∧ wipeW ρ4 vs = wipeW ρ1 vs) : lcE vs g b gt ge ρ = some (.ol (xs.filterMap F), ρ1) := by
  have key : ∀ l : List X, (∀ x ∈ l, x ∈ xs) → lcR vs b gt ge (l.map enc) (wipeW ρ1 vs) = some (l.filterMap F, wipeW ρ1 vs) := by
    intro l
    induction l with
    | nil => intro _; rfl
    | cons x l ih =>
      intro hm
      have ih := ih fun y hy => hm y (List.mem_cons_of_mem _ hy)
      rw [List.map_cons]
      unfold lcR
      rcases h x (hm x List.mem_cons_self) with ⟨f, ρ2, ρ3, h1, h2, h3⟩ | ⟨y, f, ρ2, ρ3, ρ4, h1, h2, h3, h4⟩
      · rw [h1]
        simp only [h2, h3, ih, List.filterMap_cons, f]
      · rw [h1]
        simp only [h2, h3, h4, ih, List.filterMap_cons, f, Option.map_some]
  unfold lcE
  rw [hg]
  simp only [List.length_map, hs, if_true]
  rw [key xs fun _ z => z]
  simp only [Option.map_some, backW_wipeW]
theorem lcE_map {X : Type} {vs : List Nat} {g : LE} {b : BS} {ge : DE} {ρ ρ1 : List W} {xs : List X} {enc F : X → D} (hg : g ρ = some (xs.map enc, ρ1)) (hs : small xs.length = true)
    (h : ∀ x ∈ xs, ∃ ρ2 ρ4, b (enc x) (wipeW ρ1 vs) = some ρ2 ∧ ge ρ2 = some (F x, ρ4) ∧ wipeW ρ4 vs = wipeW ρ1 vs) : lcE vs g b yesB ge ρ = some (.ol (xs.map F), ρ1) := by
  rw [lcE_pure (F := fun x => some (F x)) hg hs fun x hx => .inr ?_]
  · rw [show xs.filterMap (fun x => some (F x)) = xs.map F from by induction xs <;> simp_all]
  · obtain ⟨ρ2, ρ4, h1, h2, h3⟩ := h x hx
    exact ⟨F x, rfl, ρ2, ρ2, ρ4, h1, rfl, h2, h3⟩
/-- a loop that changes the slots by a step each -/
theorem forR_fold {X S : Type} {b : BS} {body : DS} {enc : X → D} {st : S → List W} {f : S → X → S} : ∀ {xs : List X} {s : S}, (∀ s, ∀ x ∈ xs, ∃ ρ1, b (enc x) (st s) = some ρ1 ∧ body ρ1 = some (.nx (st (f s x)))) → forR b body (xs.map enc) (st s) = some (.nx (st (xs.foldl f s)))
  | [], s, _ => rfl
  | x :: xs, s, h => by
    obtain ⟨ρ1, h1, h2⟩ := h s x List.mem_cons_self
    rw [List.map_cons]
    unfold forR
    rw [h1]
    dsimp only
    rw [h2]
    exact forR_fold fun s y hy => h s y (List.mem_cons_of_mem _ hy)
/-- .. under what stands ahead of each turn -/
theorem forR_inv {X S : Type} {b : BS} {body : DS} {enc : X → D} {st : S → List W} {f : S → X → S} {P : List X → S → Prop} (h : ∀ x xs s, P (x :: xs) s → (∃ ρ1, b (enc x) (st s) = some ρ1 ∧ body ρ1 = some (.nx (st (f s x)))) ∧ P xs (f s x)) :
    ∀ (xs : List X) (s : S), P xs s → forR b body (xs.map enc) (st s) = some (.nx (st (xs.foldl f s)))
  | [], s, _ => rfl
  | x :: xs, s, p => by
    obtain ⟨⟨ρ1, h1, h2⟩, p2⟩ := h x xs s p
    rw [List.map_cons]
    unfold forR
    rw [h1]
    dsimp only
    rw [h2]
    exact forR_inv h xs _ p2
theorem ixN_last (n : Nat) : ixN (n + 1) (-1) = some n := by
  unfold ixN
  simp
  try omega
theorem atI_last (l : List D) (x : D) : atI (l ++ [x]) (-1) = some x := by
  unfold atI
  rw [List.length_append, List.length_singleton, ixN_last]
  simp
end Dl
/-! text DL26 -/
set_option Elab.async false
set_option linter.all false
set_option maxRecDepth 100000
set_option maxHeartbeats 1000000
/-! The data layer: == of data, for simp. -/
namespace Dl
open PySem PySem.Spec PyProof.Rows L2
mutual
/-- data of ints, texts, tuples, lists, no deeper than n -/
def okD : Nat → D → Bool
  | _, .non => true
  | _, .bl _ => true
  | _, .int _ => true
  | _, .str x => PyData.canLay0 (.str x)
  | n, .tup l => decide (0 < n) && okDs (n - 1) l
  | n, .lst l => decide (0 < n) && okDs (n - 1) l
  | _, _ => false
def okDs : Nat → List D → Bool
  | _, [] => true
  | n, d :: r => okD n d && okDs n r
end
mutual
def eqvD : D → D → Bool
  | .non, .non => true
  | .bl a, .bl b => a == b
  | .bl a, .int j => (if a then 1 else 0) == j
  | .int i, .bl b => i == (if b then 1 else 0)
  | .int i, .int j => i == j
  | .str x, .str y => x == y
  | .tup l, .tup m => eqvDs l m
  | .lst l, .lst m => eqvDs l m
  | _, _ => false
def eqvDs : List D → List D → Bool
  | [], [] => true
  | x :: xs, y :: ys => eqvD x y && eqvDs xs ys
  | _, _ => false
end
mutual
theorem okD_py : ∀ (n : Nat) (d : D), okD n d = true → ∃ p, toPy d = some p ∧ p.canLay0 = true ∧ p.depth ≤ n
  | _, .non, _ => ⟨_, rfl, rfl, Nat.zero_le _⟩
  | _, .bl _, _ => ⟨_, rfl, rfl, Nat.zero_le _⟩
  | _, .int _, _ => ⟨_, rfl, rfl, Nat.zero_le _⟩
  | _, .str x, h => ⟨_, rfl, h, Nat.zero_le _⟩
  | n, .tup l, h => by
    obtain ⟨h1, h2⟩ := Bool.and_eq_true_iff.mp (show (decide (0 < n) && okDs (n - 1) l) = true from h)
    obtain ⟨ps, e1, e2, e3⟩ := okDs_py (n - 1) l h2
    refine ⟨.tuple ps, by unfold toPy; rw [e1]; rfl, e2, ?_⟩
    have := of_decide_eq_true h1
    show PyData.depthAll ps + 1 ≤ n
    omega
  | n, .lst l, h => by
    obtain ⟨h1, h2⟩ := Bool.and_eq_true_iff.mp (show (decide (0 < n) && okDs (n - 1) l) = true from h)
    obtain ⟨ps, e1, e2, e3⟩ := okDs_py (n - 1) l h2
    refine ⟨.list ps, by unfold toPy; rw [e1]; rfl, e2, ?_⟩
    have := of_decide_eq_true h1
    show PyData.depthAll ps + 1 ≤ n
    omega
  | _, .ty _, h => nomatch h
  | _, .fl _, h => nomatch h
  | _, .dk _, h => nomatch h
  | _, .dt _, h => nomatch h
  | _, .obj _ _, h => nomatch h
theorem okDs_py : ∀ (n : Nat) (l : List D), okDs n l = true → ∃ ps, toPys l = some ps ∧ PyData.canLayAll0 ps = true ∧ PyData.depthAll ps ≤ n
  | _, [], _ => ⟨[], rfl, rfl, Nat.zero_le _⟩
  | n, d :: r, h => by
    obtain ⟨h1, h2⟩ := Bool.and_eq_true_iff.mp (show (okD n d && okDs n r) = true from h)
    obtain ⟨p, a1, a2, a3⟩ := okD_py n d h1
    obtain ⟨ps, b1, b2, b3⟩ := okDs_py n r h2
    refine ⟨p :: ps, by unfold toPys; rw [a1]; dsimp only; rw [b1]; rfl, ?_, ?_⟩
    · show (p.canLay0 && PyData.canLayAll0 ps) = true
      rw [a2, b2]; rfl
    · show max p.depth (PyData.depthAll ps) ≤ n
      omega
end
mutual
theorem eqv_py : ∀ (x y : D) (p q : PyData), toPy x = some p → toPy y = some q → PyData.eqv p q = eqvD x y
  | .tup l, .tup m, p, q, h1, h2 => by
    unfold toPy at h1 h2
    obtain ⟨ps, e1, rfl⟩ := Option.map_eq_some_iff.mp h1
    obtain ⟨qs, e2, rfl⟩ := Option.map_eq_some_iff.mp h2
    show PyData.eqvAll ps qs = eqvDs l m
    exact eqvs_py l m ps qs e1 e2
  | .lst l, .lst m, p, q, h1, h2 => by
    unfold toPy at h1 h2
    obtain ⟨ps, e1, rfl⟩ := Option.map_eq_some_iff.mp h1
    obtain ⟨qs, e2, rfl⟩ := Option.map_eq_some_iff.mp h2
    show PyData.eqvAll ps qs = eqvDs l m
    exact eqvs_py l m ps qs e1 e2
  | .tup l, .lst m, p, q, h1, h2 => by
    unfold toPy at h1 h2
    obtain ⟨ps, e1, rfl⟩ := Option.map_eq_some_iff.mp h1
    obtain ⟨qs, e2, rfl⟩ := Option.map_eq_some_iff.mp h2
    unfold eqvD; rfl
  | .lst l, .tup m, p, q, h1, h2 => by
    unfold toPy at h1 h2
    obtain ⟨ps, e1, rfl⟩ := Option.map_eq_some_iff.mp h1
    obtain ⟨qs, e2, rfl⟩ := Option.map_eq_some_iff.mp h2
    unfold eqvD; rfl
  | .tup l, .non, p, q, h1, h2 | .tup l, .bl _, p, q, h1, h2 | .tup l, .int _, p, q, h1, h2 | .tup l, .str _, p, q, h1, h2 => by
    unfold toPy at h1 h2
    obtain ⟨ps, e1, rfl⟩ := Option.map_eq_some_iff.mp h1
    cases h2
    unfold eqvD; rfl
  | .lst l, .non, p, q, h1, h2 | .lst l, .bl _, p, q, h1, h2 | .lst l, .int _, p, q, h1, h2 | .lst l, .str _, p, q, h1, h2 => by
    unfold toPy at h1 h2
    obtain ⟨ps, e1, rfl⟩ := Option.map_eq_some_iff.mp h1
    cases h2
    unfold eqvD; rfl
  | .non, .tup l, p, q, h1, h2 | .bl _, .tup l, p, q, h1, h2 | .int _, .tup l, p, q, h1, h2 | .str _, .tup l, p, q, h1, h2 => by
    unfold toPy at h1 h2
    obtain ⟨ps, e1, rfl⟩ := Option.map_eq_some_iff.mp h2
    cases h1
    unfold eqvD; rfl
  | .non, .lst l, p, q, h1, h2 | .bl _, .lst l, p, q, h1, h2 | .int _, .lst l, p, q, h1, h2 | .str _, .lst l, p, q, h1, h2 => by
    unfold toPy at h1 h2
    obtain ⟨ps, e1, rfl⟩ := Option.map_eq_some_iff.mp h2
    cases h1
    unfold eqvD; rfl
  | .non, .non, p, q, h1, h2 | .non, .bl _, p, q, h1, h2 | .non, .int _, p, q, h1, h2 | .non, .str _, p, q, h1, h2 => by cases h1; cases h2; unfold eqvD; rfl
  | .bl _, .non, p, q, h1, h2 | .bl _, .bl _, p, q, h1, h2 | .bl _, .int _, p, q, h1, h2 | .bl _, .str _, p, q, h1, h2 => by cases h1; cases h2; unfold eqvD; rfl
  | .int _, .non, p, q, h1, h2 | .int _, .bl _, p, q, h1, h2 | .int _, .int _, p, q, h1, h2 | .int _, .str _, p, q, h1, h2 => by cases h1; cases h2; unfold eqvD; rfl
  | .str _, .non, p, q, h1, h2 | .str _, .bl _, p, q, h1, h2 | .str _, .int _, p, q, h1, h2 | .str _, .str _, p, q, h1, h2 => by cases h1; cases h2; unfold eqvD; rfl
  | .ty _, _, _, _, h, _ => nomatch h
  | .fl _, _, _, _, h, _ => nomatch h
  | .dk _, _, _, _, h, _ => nomatch h
  | .dt _, _, _, _, h, _ => nomatch h
  | .obj _ _, _, _, _, h, _ => nomatch h
  | _, .ty _, _, _, _, h => nomatch h
  | _, .fl _, _, _, _, h => nomatch h
  | _, .dk _, _, _, _, h => nomatch h
  | _, .dt _, _, _, _, h => nomatch h
  | _, .obj _ _, _, _, _, h => nomatch h
theorem eqvs_py : ∀ (l m : List D) (ps qs : List PyData), toPys l = some ps → toPys m = some qs → PyData.eqvAll ps qs = eqvDs l m
  | [], [], _, _, h1, h2 => by cases h1; cases h2; rfl
  | [], y :: m, _, _, h1, h2 => by
    cases h1
    unfold toPys at h2
    cases e : toPy y with
    | none => rw [e] at h2; cases h2
    | some q =>
      rw [e] at h2
      obtain ⟨qs, e2, rfl⟩ := Option.map_eq_some_iff.mp h2
      rfl
  | x :: l, [], _, _, h1, h2 => by
    cases h2
    unfold toPys at h1
    cases e : toPy x with
    | none => rw [e] at h1; cases h1
    | some q =>
      rw [e] at h1
      obtain ⟨qs, e2, rfl⟩ := Option.map_eq_some_iff.mp h1
      rfl
  | x :: l, y :: m, _, _, h1, h2 => by
    unfold toPys at h1 h2
    cases e : toPy x with
    | none => rw [e] at h1; cases h1
    | some p =>
      cases e' : toPy y with
      | none => rw [e'] at h2; cases h2
      | some q =>
        rw [e] at h1
        rw [e'] at h2
        obtain ⟨ps, a2, rfl⟩ := Option.map_eq_some_iff.mp h1
        obtain ⟨qs, b2, rfl⟩ := Option.map_eq_some_iff.mp h2
        show (PyData.eqv p q && PyData.eqvAll ps qs) = (eqvD x y && eqvDs l m)
        rw [eqv_py x y p q e e', eqvs_py l m ps qs a2 b2]
end
theorem eqD_ok {neg : Bool} {x y : D} (hx : okD 60 x = true) (hy : okD 60 y = true) : eqD neg x y = some (.bl (if neg then !eqvD x y else eqvD x y)) := by
  obtain ⟨p, a1, a2, a3⟩ := okD_py 60 x hx
  obtain ⟨q, b1, b2, b3⟩ := okD_py 60 y hy
  have sp : SeqAt.shaped p = true := by unfold SeqAt.shaped; rw [a2, decide_eq_true (by omega)]; rfl
  have sq : SeqAt.shaped q = true := by unfold SeqAt.shaped; rw [b2, decide_eq_true (by omega)]; rfl
  unfold eqD
  rw [a1]
  dsimp only
  rw [b1]
  dsimp only
  rw [sp, sq, eqv_py x y p q a1 b1]
  rfl
end Dl
/-! text MI -/
set_option Elab.async false
set_option linter.all false
set_option maxRecDepth 100000
set_option maxHeartbeats 0
namespace Mi
open PySem PySem.Spec L2 Dl
def g__wall : DS :=
  (whileR (bE (cE (.bl true)))
  skipS 200)
def m__wall : List D → Option O := fnP 1 1 g__wall
def g_is_integer : DS :=
  (retS (shE (andD (frE (callB (sh2 isiD) (consL (vE 0) (consL (cE (.ty "int")) nilL)))) (op1 notD (frE (callB (sh2 isiD) (consL (vE 0) (consL (cE (.ty "bool")) nilL))))))))
def m_is_integer : List D → Option O := fnP 1 1 g_is_integer
def g_is_between : DS :=
  (retS (shE (andD (frE (callP 1 m_is_integer (consL (vE 0) nilL))) (chF leI leI (vE 1) (vE 0) (vE 2)))))
def m_is_between : List D → Option O := fnP 3 3 g_is_between
def g_is_name : DS :=
  (seqS (ifS (orB (notB (bE (frE (callB (sh2 isiD) (consL (vE 0) (consL (cE (.ty "str")) nilL)))))) (orB (notB (bE (chF ltI leI (cE (.int 0)) (frE (callB (sh1 lenD) (consL (vE 0) nilL))) (cE (.int 8))))) (bE (op2 (inD true) (op2 subD (vE 0) (cE (.int 0))) (cE (.str "abcdefghijklmnopqrstuvwxyz"))))))
  (retS (shE (cE (.bl false))))
  skipS)
  (retS (callB (sh1 allD) (consL (frE (lcE [1] (itE seqS' (vE 0)) (bN 1) yesB (orD (op2 (inD false) (vE 1) (cE (.str "abcdefghijklmnopqrstuvwxyz"))) (op2 (inD false) (vE 1) (cE (.str "0123456789")))))) nilL))))
def m_is_name : List D → Option O := fnP 1 2 g_is_name
def g_read_integer : DS :=
  (seqS (asgS 1 (shE (ifE (bE (op2 (eqD false) (frE (slE (vE 0) noPa (atPa (cE (.int 1))))) (cE (.str "-")))) (frE (slE (vE 0) (atPa (cE (.int 1))) noPa)) (vE 0))))
  (seqS (ifS (orB (bE (op2 (eqD false) (vE 1) (cE (.str "")))) (orB (bE (op2 gtI (frE (callB (sh1 lenD) (consL (vE 1) nilL))) (cE (.int 9)))) (notB (bE (frE (callB (sh1 allD) (consL (frE (lcE [2] (itE seqS' (vE 1)) (bN 2) yesB (op2 (inD false) (vE 2) (cE (.str "0123456789"))))) nilL)))))))
  (retS (shE (cE .non)))
  skipS)
  (seqS (asgS 3 (shE (frE (callB (sh1 intD) (consL (vE 0) nilL)))))
  (retS (shE (ifE (bE (op2 (eqD false) (frE (callB (sh1 strD) (consL (vE 3) nilL))) (vE 0))) (vE 3) (cE .non)))))))
def m_read_integer : List D → Option O := fnP 1 4 g_read_integer
def g_is_source : DS :=
  (seqS (ifS (orB (notB (bE (frE (callB (sh2 isiD) (consL (vE 0) (consL (cE (.ty "tuple")) nilL)))))) (bE (op2 (eqD true) (frE (callB (sh1 lenD) (consL (vE 0) nilL))) (cE (.int 2)))))
  (retS (shE (cE (.bl false))))
  skipS)
  (retS (shE (andD (frE (callB (sh1 allD) (consL (frE (lcE [1] (itE seqS' (vE 0)) (bN 1) yesB (frE (callP 3 m_is_between (consL (vE 1) (consL (op2 subI (cE (.int 0)) (cE (.int 99999))) (consL (cE (.int 99999)) nilL))))))) nilL))) (op2 leI (op2 subD (vE 0) (cE (.int 0))) (op2 subD (vE 0) (cE (.int 1))))))))
def m_is_source : List D → Option O := fnP 1 2 g_is_source
def g_check_sources : DS :=
  (seqS (ifS (orB (notB (bE (frE (callB (sh2 isiD) (consL (vE 0) (consL (cE (.ty "tuple")) nilL)))))) (notB (bE (chF ltI leI (cE (.int 0)) (frE (callB (sh1 lenD) (consL (vE 0) nilL))) (cE (.int 20))))))
  stuckS
  skipS)
  (ifS (notB (bE (frE (callB (sh1 allD) (consL (frE (lcE [1] (itE seqS' (vE 0)) (bN 1) yesB (frE (callP 1 m_is_source (consL (vE 1) nilL))))) nilL)))))
  stuckS
  skipS))
def m_check_sources : List D → Option O := fnP 1 2 g_check_sources
def g_check_wrong : DS :=
  (seqS (dropS (frE (callP 1 m_check_sources (consL (vE 0) nilL))))
  (ifS (notB (bE (frE (callP 3 m_is_between (consL (vE 1) (consL (cE (.int 0)) (consL (op2 subI (frE (callB (sh1 lenD) (consL (vE 0) nilL))) (cE (.int 1))) nilL)))))))
  stuckS
  skipS))
def m_check_wrong : List D → Option O := fnP 2 2 g_check_wrong
def g_having : DS :=
  (retS (lcE [2, 3, 4] (itL enumD (consL (vE 0) nilL)) (bT 2 (bCons (bN 2) (bCons (bT 2 (bCons (bN 3) (bCons (bN 4) bNil))) bNil))) (bE (chF leI leI (vE 3) (vE 1) (vE 4))) (vE 2)))
def m_having : List D → Option O := fnP 2 5 g_having
def g_have : DS :=
  (seqS (dropS (frE (callP 1 m_check_sources (consL (vE 0) nilL))))
  (seqS (ifS (notB (bE (frE (callP 3 m_is_between (consL (vE 1) (consL (op2 subI (cE (.int 0)) (cE (.int 199998))) (consL (cE (.int 199998)) nilL)))))))
  stuckS
  skipS)
  (retS (callB (sh1 tupleD) (consL (frE (callP 2 m_having (consL (vE 0) (consL (vE 1) nilL)))) nilL)))))
def m_have : List D → Option O := fnP 2 2 g_have
def g_pieces_of : DS :=
  (seqS (asgS 1 (shE (frE (sortSetE (op2 addD (frE (lcE [2, 3] (itE seqS' (vE 0)) (bT 2 (bCons (bN 2) (bCons (bN 3) bNil))) yesB (vE 2))) (frE (lcE [2, 3] (itE seqS' (vE 0)) (bT 2 (bCons (bN 2) (bCons (bN 3) bNil))) yesB (op2 addD (vE 3) (cE (.int 1))))))))))
  (retS (lcE [4, 5] (itL zip2D (consL (vE 1) (consL (frE (slE (vE 1) (atPa (cE (.int 1))) noPa)) nilL))) (bT 2 (bCons (bN 4) (bCons (bN 5) bNil))) yesB (tupE (consL (vE 4) (consL (op2 subI (vE 5) (cE (.int 1))) (consL (frE (callP 2 m_having (consL (vE 0) (consL (vE 4) nilL)))) nilL)))))))
def m_pieces_of : List D → Option O := fnP 1 6 g_pieces_of
def g_joined : DS :=
  (seqS (asgS 1 (lstE nilL))
  (seqS (forS (itE seqS' (vE 0)) (bT 2 (bCons (bN 2) (bCons (bN 3) bNil)))
  (ifS (andB (bE (eqP true (.sl 1) (frE (lstE nilL)))) (bE (op2 (eqD false) (op2 addD (op2 subD (subP (.sl 1) (op1 negI (cE (.int 1)))) (cE (.int 1))) (cE (.int 1))) (vE 2))))
  (asG (tupE (consL (op2 subD (subP (.sl 1) (op1 negI (cE (.int 1)))) (cE (.int 0))) (consL (vE 3) nilL))) (stB (.sl 1) (op1 negI (cE (.int 1)))))
  (appS (.sl 1) (tupE (consL (vE 2) (consL (vE 3) nilL))))))
  (retS (callB (sh1 tupleD) (consL (vF 1) nilL)))))
def m_joined : List D → Option O := fnP 1 4 g_joined
def g_told_agreed : DS :=
  (retS (callP 1 m_joined (consL (frE (lcE [2, 3, 4] (itE seqS' (frE (callP 1 m_pieces_of (consL (vE 0) nilL)))) (bT 3 (bCons (bN 2) (bCons (bN 3) (bCons (bN 4) bNil)))) (bE (op2 geI (frE (callB (sh1 lenD) (consL (vE 4) nilL))) (vE 1))) (tupE (consL (vE 2) (consL (vE 3) nilL))))) nilL)))
def m_told_agreed : List D → Option O := fnP 2 5 g_told_agreed
def g_agreed : DS :=
  (seqS (dropS (frE (callP 1 m_check_sources (consL (vE 0) nilL))))
  (seqS (ifS (notB (bE (frE (callP 3 m_is_between (consL (vE 1) (consL (cE (.int 1)) (consL (frE (callB (sh1 lenD) (consL (vE 0) nilL))) nilL)))))))
  stuckS
  skipS)
  (retS (callP 2 m_told_agreed (consL (vE 0) (consL (vE 1) nilL))))))
def m_agreed : List D → Option O := fnP 2 2 g_agreed
def g_most_agreed : DS :=
  (retS (callB (sh1 maxD) (consL (frE (lcE [1, 2, 3] (itE seqS' (frE (callP 1 m_pieces_of (consL (vE 0) nilL)))) (bT 3 (bCons (bN 1) (bCons (bN 2) (bCons (bN 3) bNil)))) yesB (frE (callB (sh1 lenD) (consL (vE 3) nilL))))) nilL)))
def m_most_agreed : List D → Option O := fnP 1 4 g_most_agreed
def g_best_agreed : DS :=
  (seqS (dropS (frE (callP 1 m_check_sources (consL (vE 0) nilL))))
  (seqS (asgS 1 (shE (frE (callP 1 m_most_agreed (consL (vE 0) nilL)))))
  (retS (shE (tupE (consL (vE 1) (consL (frE (callP 2 m_told_agreed (consL (vE 0) (consL (vE 1) nilL)))) nilL)))))))
def m_best_agreed : List D → Option O := fnP 1 2 g_best_agreed
def g_told_could : DS :=
  (seqS (asgS 2 (shE (op2 subI (frE (callB (sh1 lenD) (consL (vE 0) nilL))) (frE (callP 1 m_most_agreed (consL (vE 0) nilL))))))
  (retS (shE (ifE (bE (op2 gtI (vE 2) (vE 1))) (tupE (consL (cE (.str "more")) (consL (vE 2) nilL))) (tupE (consL (cE (.str "spans")) (consL (frE (callP 2 m_told_agreed (consL (vE 0) (consL (op2 subI (frE (callB (sh1 lenD) (consL (vE 0) nilL))) (vE 1)) nilL)))) nilL)))))))
def m_told_could : List D → Option O := fnP 2 3 g_told_could
def g_truth_spans : DS :=
  (seqS (dropS (frE (callP 2 m_check_wrong (consL (vE 0) (consL (vE 1) nilL)))))
  (retS (callP 2 m_told_could (consL (vE 0) (consL (vE 1) nilL)))))
def m_truth_spans : List D → Option O := fnP 2 2 g_truth_spans
def g_spans_if : DS :=
  (seqS (dropS (frE (callP 2 m_check_wrong (consL (vE 0) (consL (vE 1) nilL)))))
  (seqS (asG (frE (callP 2 m_told_could (consL (vE 0) (consL (vE 1) nilL)))) (bT 2 (bCons (nmB 2) (bCons (nmB 3) bNil))))
  (seqS (ifS (bE (op2 (eqD false) (vE 2) (cE (.str "more"))))
  stuckS
  skipS)
  (retS (shE (vE 3))))))
def m_spans_if : List D → Option O := fnP 2 4 g_spans_if
def g_surely_wrong : DS :=
  (seqS (parO 2 3 (consO (shE (frE (callP 2 m_spans_if (consL (vE 0) (consL (vE 1) nilL))))) (consO (lstE nilL) nilO)))
  (seqS (forS (itL enumD (consL (vE 0) nilL)) (bT 2 (bCons (bN 4) (bCons (bT 2 (bCons (bN 5) (bCons (bN 6) bNil))) bNil)))
  (ifS (notB (bE (frE (callB (sh1 anyD) (consL (frE (lcE [7, 8] (itE seqS' (vE 2)) (bT 2 (bCons (bN 7) (bCons (bN 8) bNil))) yesB (andD (op2 leI (vE 7) (vE 6)) (op2 leI (vE 5) (vE 8))))) nilL)))))
  (appS (.sl 3) (vE 4))
  skipS))
  (retS (callB (sh1 tupleD) (consL (vF 3) nilL)))))
def m_surely_wrong : List D → Option O := fnP 2 9 g_surely_wrong
def g_trimmed : DS :=
  (seqS (dropS (frE (callP 2 m_check_wrong (consL (vE 0) (consL (vE 1) nilL)))))
  (seqS (parO 2 3 (consO (shE (frE (callB (sortedIO) (consL (frE (lcE [4, 5] (itE seqS' (vE 0)) (bT 2 (bCons (bN 4) (bCons (bN 5) bNil))) yesB (vE 4))) nilL)))) (consO (shE (frE (callB (sortedIO) (consL (frE (lcE [4, 5] (itE seqS' (vE 0)) (bT 2 (bCons (bN 4) (bCons (bN 5) bNil))) yesB (vE 5))) nilL)))) nilO)))
  (retS (shE (tupE (consL (op2 subD (vE 2) (op2 subI (op2 subI (frE (callB (sh1 lenD) (consL (vE 2) nilL))) (cE (.int 1))) (vE 1))) (consL (op2 subD (vE 3) (vE 1)) nilL)))))))
def m_trimmed : List D → Option O := fnP 2 6 g_trimmed
def g_hull : DS :=
  (seqS (asgS 2 (shE (frE (callP 2 m_spans_if (consL (vE 0) (consL (vE 1) nilL))))))
  (retS (shE (tupE (consL (op2 subD (op2 subD (vE 2) (cE (.int 0))) (cE (.int 0))) (consL (op2 subD (op2 subD (vE 2) (op1 negI (cE (.int 1)))) (cE (.int 1))) nilL))))))
def m_hull : List D → Option O := fnP 2 3 g_hull
def g_LogReader__init_ : DS :=
  (seqS (setF 0 "LogReader" "own_towns" (fun ρ => some (.ok [], ρ)))
  (seqS (setF 0 "LogReader" "own_deeds" (fun ρ => some (.ok [], ρ)))
  (setF 0 "LogReader" "own_letters" (fun ρ => some (.ot [], ρ)))))
def m_LogReader__init_ : O → List D → Option (O × O) := fnR 1 1 g_LogReader__init_
def g_LogReader_takes_letter : DS :=
  (seqS (ifS (orB (bE (op2 (eqD false) (lenP (.fd 0 "LogReader" "own_letters")) (cE (.int 40)))) (orB (bE (inP false (vE 1) (.fd 0 "LogReader" "own_letters"))) (bE (op2 (eqD false) (op2 subD (vE 1) (cE (.int 0))) (op2 subD (vE 1) (cE (.int 1)))))))
  (retS (shE (cE (.bl false))))
  skipS)
  (seqS (ifS (orB (bE (inP true (op2 subD (vE 1) (cE (.int 0))) (.fd 0 "LogReader" "own_deeds"))) (orB (bE (inP true (op2 subD (vE 1) (cE (.int 1))) (.fd 0 "LogReader" "own_deeds"))) (notB (bE (frE (callP 3 m_is_between (consL (vE 2) (consL (cE (.int 0)) (consL (cE (.int 99999)) nilL)))))))))
  (retS (shE (cE (.bl false))))
  skipS)
  (seqS (ifS (andB (bE (op2 (isD true) (vE 3) (cE .non))) (notB (bE (frE (callP 3 m_is_between (consL (vE 3) (consL (vE 2) (consL (cE (.int 99999)) nilL))))))))
  (retS (shE (cE (.bl false))))
  skipS)
  (seqS (asG (tupE (consL (vE 2) (consL (vE 3) nilL))) (stB (.fd 0 "LogReader" "own_letters") (vE 1)))
  (retS (shE (cE (.bl true))))))))
def m_LogReader_takes_letter : O → List D → Option (O × O) := fnR 4 4 g_LogReader_takes_letter
def g_LogReader_takes_deed : DS :=
  (seqS (ifS (orB (bE (neO (.fd 0 "LogReader" "own_letters"))) (orB (bE (op2 (eqD false) (lenP (.fd 0 "LogReader" "own_deeds")) (cE (.int 24)))) (orB (notB (bE (frE (callP 1 m_is_name (consL (vE 1) nilL))))) (bE (inP false (vE 1) (.fd 0 "LogReader" "own_deeds"))))))
  (retS (shE (cE (.bl false))))
  skipS)
  (seqS (ifS (orB (bE (inP true (vE 2) (.fd 0 "LogReader" "own_towns"))) (notB (bE (frE (callP 3 m_is_between (consL (vE 3) (consL (cE (.int 0)) (consL (cE (.int 99999)) nilL))))))))
  (retS (shE (cE (.bl false))))
  skipS)
  (seqS (asG (tupE (consL (vE 2) (consL (vE 3) nilL))) (stB (.fd 0 "LogReader" "own_deeds") (vE 1)))
  (retS (shE (cE (.bl true)))))))
def m_LogReader_takes_deed : O → List D → Option (O × O) := fnR 4 4 g_LogReader_takes_deed
def g_LogReader_takes_town : DS :=
  (seqS (ifS (orB (bE (neO (.fd 0 "LogReader" "own_deeds"))) (orB (bE (op2 (eqD false) (lenP (.fd 0 "LogReader" "own_towns")) (cE (.int 8)))) (orB (notB (bE (frE (callP 1 m_is_name (consL (vE 1) nilL))))) (bE (inP false (vE 1) (.fd 0 "LogReader" "own_towns"))))))
  (retS (shE (cE (.bl false))))
  skipS)
  (seqS (ifS (orB (notB (bE (frE (callP 3 m_is_between (consL (vE 2) (consL (op2 subI (cE (.int 0)) (cE (.int 999))) (consL (cE (.int 999)) nilL))))))) (notB (bE (frE (callP 3 m_is_between (consL (vE 3) (consL (vE 2) (consL (cE (.int 999)) nilL))))))))
  (retS (shE (cE (.bl false))))
  skipS)
  (seqS (asG (tupE (consL (vE 2) (consL (vE 3) nilL))) (stB (.fd 0 "LogReader" "own_towns") (vE 1)))
  (retS (shE (cE (.bl true)))))))
def m_LogReader_takes_town : O → List D → Option (O × O) := fnR 4 4 g_LogReader_takes_town
def g_LogReader_takes : DS :=
  (seqS (asgS 2 (shE (frE (m1E splitD (vE 1) (cE (.str " "))))))
  (seqS (ifS (andB (bE (op2 (eqD false) (op2 subD (vE 2) (cE (.int 0))) (cE (.str "town")))) (bE (op2 (eqD false) (frE (callB (sh1 lenD) (consL (vE 2) nilL))) (cE (.int 4)))))
  (retS (methR "LogReader" "takes_town" 4 m_LogReader_takes_town 0 (consL (op2 subD (vE 2) (cE (.int 1))) (consL (frE (callP 1 m_read_integer (consL (op2 subD (vE 2) (cE (.int 2))) nilL))) (consL (frE (callP 1 m_read_integer (consL (op2 subD (vE 2) (cE (.int 3))) nilL))) nilL)))))
  skipS)
  (seqS (ifS (andB (bE (op2 (eqD false) (op2 subD (vE 2) (cE (.int 0))) (cE (.str "deed")))) (bE (op2 (eqD false) (frE (callB (sh1 lenD) (consL (vE 2) nilL))) (cE (.int 4)))))
  (retS (methR "LogReader" "takes_deed" 4 m_LogReader_takes_deed 0 (consL (op2 subD (vE 2) (cE (.int 1))) (consL (op2 subD (vE 2) (cE (.int 2))) (consL (frE (callP 1 m_read_integer (consL (op2 subD (vE 2) (cE (.int 3))) nilL))) nilL)))))
  skipS)
  (seqS (ifS (orB (bE (op2 (eqD true) (op2 subD (vE 2) (cE (.int 0))) (cE (.str "letter")))) (bE (op2 (eqD true) (frE (callB (sh1 lenD) (consL (vE 2) nilL))) (cE (.int 5)))))
  (retS (shE (cE (.bl false))))
  skipS)
  (seqS (asgS 3 (shE (ifE (bE (op2 (eqD false) (op2 subD (vE 2) (cE (.int 4))) (cE (.str "*")))) (cE .non) (frE (callP 1 m_read_integer (consL (op2 subD (vE 2) (cE (.int 4))) nilL))))))
  (seqS (ifS (andB (bE (op2 (isD false) (vE 3) (cE .non))) (bE (op2 (eqD true) (op2 subD (vE 2) (cE (.int 4))) (cE (.str "*")))))
  (retS (shE (cE (.bl false))))
  skipS)
  (retS (methR "LogReader" "takes_letter" 4 m_LogReader_takes_letter 0 (consL (tupE (consL (op2 subD (vE 2) (cE (.int 1))) (consL (op2 subD (vE 2) (cE (.int 2))) nilL))) (consL (frE (callP 1 m_read_integer (consL (op2 subD (vE 2) (cE (.int 3))) nilL))) (consL (vE 3) nilL)))))))))))
def m_LogReader_takes : O → List D → Option (O × O) := fnR 2 4 g_LogReader_takes
def g_Log__init_ : DS :=
  (seqS (ifS (notB (bE (frE (callB (sh2 isiD) (consL (vE 1) (consL (cE (.ty "str")) nilL))))))
  stuckS
  skipS)
  (seqS (asgS 2 (makeE "LogReader" 1 m_LogReader__init_ nilL))
  (seqS (forS (itL enumD (consL (frE (m1E splitD (vE 1) (cE (.str "\n")))) nilL)) (bT 2 (bCons (bN 3) (bCons (bN 4) bNil)))
  (ifS (notB (bE (frE (methR "LogReader" "takes" 2 m_LogReader_takes 2 (consL (vE 4) nilL)))))
  stuckS
  skipS))
  (seqS (setF 0 "Log" "own_text" (shE (vE 1)))
  (seqS (setF 0 "Log" "own_towns" (shE (fldE "LogReader" "own_towns" (vF 2))))
  (seqS (setF 0 "Log" "own_deeds" (shE (fldE "LogReader" "own_deeds" (vF 2))))
  (setF 0 "Log" "own_letters" (shE (fldE "LogReader" "own_letters" (vF 2))))))))))
def m_Log__init_ : O → List D → Option (O × O) := fnR 2 5 g_Log__init_
def g_Log_text : DS :=
  (retS (shE (pE (.fd 0 "Log" "own_text"))))
def m_Log_text : List D → Option O := fnP 1 1 g_Log_text
def g_Log__eq_ : DS :=
  (retS (shE (andD (isOwn "Log" (vE 1)) (op2 (eqD false) (pE (.fd 0 "Log" "own_text")) (frE (propE "Log" m_Log_text (vE 1)))))))
def m_Log__eq_ : List D → Option O := fnP 2 2 g_Log__eq_
def g_Log_towns : DS :=
  (retS (callB (sh1 tupleD) (consL (frE (lcE [1] (itP (.fd 0 "Log" "own_towns")) (bN 1) yesB (tupE (consL (vE 1) (starL (op2 subD (pE (.fd 0 "Log" "own_towns")) (vE 1)) nilL))))) nilL)))
def m_Log_towns : List D → Option O := fnP 1 2 g_Log_towns
def g_Log_deeds : DS :=
  (retS (callB (sh1 tupleD) (consL (frE (lcE [1] (itP (.fd 0 "Log" "own_deeds")) (bN 1) yesB (tupE (consL (vE 1) (starL (op2 subD (pE (.fd 0 "Log" "own_deeds")) (vE 1)) nilL))))) nilL)))
def m_Log_deeds : List D → Option O := fnP 1 2 g_Log_deeds
def g_Log_letters : DS :=
  (retS (callB (sh1 tupleD) (consL (frE (lcE [1] (itP (.fd 0 "Log" "own_letters")) (bN 1) yesB (tupE (starL (vE 1) (starL (op2 subD (pE (.fd 0 "Log" "own_letters")) (vE 1)) nilL))))) nilL)))
def m_Log_letters : List D → Option O := fnP 1 2 g_Log_letters
def g_Log_town_names : DS :=
  (retS (callB (orC listO (orC listK listT)) (consL (pE (.fd 0 "Log" "own_towns")) nilL)))
def m_Log_town_names : List D → Option O := fnP 1 1 g_Log_town_names
def g_Log_deed_names : DS :=
  (retS (callB (orC listO (orC listK listT)) (consL (pE (.fd 0 "Log" "own_deeds")) nilL)))
def m_Log_deed_names : List D → Option O := fnP 1 1 g_Log_deed_names
def g_Log_town_at : DS :=
  (retS (shE (op2 subD (op2 subD (pE (.fd 0 "Log" "own_deeds")) (vE 1)) (cE (.int 0)))))
def m_Log_town_at : List D → Option O := fnP 2 2 g_Log_town_at
def g_Log_shown_at : DS :=
  (retS (shE (op2 subD (op2 subD (pE (.fd 0 "Log" "own_deeds")) (vE 1)) (cE (.int 1)))))
def m_Log_shown_at : List D → Option O := fnP 2 2 g_Log_shown_at
def g_written : DS :=
  (seqS (asgS 3 (lcE [4, 5, 6] (itE seqS' (vE 0)) (bT 3 (bCons (bN 4) (bCons (bN 5) (bCons (bN 6) bNil)))) yesB (frE (m1E joinD (cE (.str " ")) (frE (lstE (consL (cE (.str "town")) (consL (vE 4) (consL (frE (callB (sh1 strD) (consL (vE 5) nilL))) (consL (frE (callB (sh1 strD) (consL (vE 6) nilL))) nilL))))))))))
  (seqS (extS (.sl 3) (frE (lcE [4, 7, 8] (itE seqS' (vE 1)) (bT 3 (bCons (bN 4) (bCons (bN 7) (bCons (bN 8) bNil)))) yesB (frE (m1E joinD (cE (.str " ")) (frE (lstE (consL (cE (.str "deed")) (consL (vE 4) (consL (vE 7) (consL (frE (callB (sh1 strD) (consL (vE 8) nilL))) nilL)))))))))))
  (seqS (forS (itE seqS' (vE 2)) (bT 4 (bCons (bN 9) (bCons (bN 10) (bCons (bN 11) (bCons (bN 12) bNil)))))
  (appS (.sl 3) (frE (m1E joinD (cE (.str " ")) (frE (lstE (consL (cE (.str "letter")) (consL (vE 9) (consL (vE 10) (consL (frE (callB (sh1 strD) (consL (vE 11) nilL))) (consL (ifE (bE (op2 (isD false) (vE 12) (cE .non))) (cE (.str "*")) (frE (callB (sh1 strD) (consL (vE 12) nilL)))) nilL)))))))))))
  (retS (makeE "Log" 2 m_Log__init_ (consL (frE (m1E joinD (cE (.str "\n")) (vF 3))) nilL))))))
def m_written : List D → Option O := fnP 3 13 g_written
def g_check_log : DS :=
  (ifS (notB (bE (isOwn "Log" (vE 0))))
  stuckS
  skipS)
def m_check_log : List D → Option O := fnP 1 1 g_check_log
def g_check_deed : DS :=
  (seqS (dropS (frE (callP 1 m_check_log (consL (vE 0) nilL))))
  (ifS (orB (notB (bE (frE (callB (sh2 isiD) (consL (vE 1) (consL (cE (.ty "str")) nilL)))))) (bE (op2 (inD true) (vE 1) (frE (methP "Log" "deed_names" 1 m_Log_deed_names (vE 0) nilL)))))
  stuckS
  skipS))
def m_check_deed : List D → Option O := fnP 2 2 g_check_deed
def g_is_lot_of : DS :=
  (seqS (ifS (orB (notB (bE (frE (callB (sh2 isiD) (consL (vE 1) (consL (cE (.ty "tuple")) nilL)))))) (notB (bE (frE (callB (sh1 allD) (consL (frE (lcE [2] (itE seqS' (vE 1)) (bN 2) yesB (frE (callB (sh2 isiD) (consL (vE 2) (consL (cE (.ty "str")) nilL)))))) nilL))))))
  (retS (shE (cE (.bl false))))
  skipS)
  (retS (shE (op2 (eqD false) (vE 1) (frE (callB (sh1 tupleD) (consL (frE (lcE [2] (itE seqS' (frE (methP "Log" "deed_names" 1 m_Log_deed_names (vE 0) nilL))) (bN 2) (bE (op2 (inD false) (vE 2) (vE 1))) (vE 2))) nilL)))))))
def m_is_lot_of : List D → Option O := fnP 2 3 g_is_lot_of
def g_check_lot : DS :=
  (seqS (dropS (frE (callP 1 m_check_log (consL (vE 0) nilL))))
  (ifS (notB (bE (frE (callP 2 m_is_lot_of (consL (vE 0) (consL (vE 1) nilL))))))
  stuckS
  skipS))
def m_check_lot : List D → Option O := fnP 2 2 g_check_lot
def g_time_by : DS :=
  (retS (shE (op2 subI (frE (methP "Log" "shown_at" 2 m_Log_shown_at (vE 0) (consL (vE 2) nilL))) (op2 subD (vE 1) (bmE indexD (frE (methP "Log" "town_names" 1 m_Log_town_names (vE 0) nilL)) (consL (frE (methP "Log" "town_at" 2 m_Log_town_at (vE 0) (consL (vE 2) nilL))) nilL))))))
def m_time_by : List D → Option O := fnP 3 3 g_time_by
def g_is_course_of : DS :=
  (seqS (ifS (orB (notB (bE (frE (callB (sh2 isiD) (consL (vE 1) (consL (cE (.ty "tuple")) nilL)))))) (bE (op2 (eqD true) (frE (callB (sh1 lenD) (consL (vE 1) nilL))) (frE (callB (sh1 lenD) (consL (frE (methP "Log" "town_names" 1 m_Log_town_names (vE 0) nilL)) nilL))))))
  (retS (shE (cE (.bl false))))
  skipS)
  (seqS (ifS (notB (bE (frE (callB (sh1 allD) (consL (frE (lcE [2] (itE seqS' (vE 1)) (bN 2) yesB (frE (callP 1 m_is_integer (consL (vE 2) nilL))))) nilL)))))
  (retS (shE (cE (.bl false))))
  skipS)
  (seqS (ifS (notB (bE (frE (callB (sh1 allD) (consL (frE (lcE [2, 3, 4, 5] (itL zip2D (consL (vE 1) (consL (frE (propE "Log" m_Log_towns (vE 0))) nilL))) (bT 2 (bCons (bN 2) (bCons (bT 3 (bCons (bN 3) (bCons (bN 4) (bCons (bN 5) bNil)))) bNil))) yesB (chF leI leI (vE 4) (vE 2) (vE 5)))) nilL)))))
  (retS (shE (cE (.bl false))))
  skipS)
  (seqS (forS (itE seqS' (frE (propE "Log" m_Log_letters (vE 0)))) (bT 4 (bCons (bN 6) (bCons (bN 7) (bCons (bN 8) (bCons (bN 9) bNil)))))
  (seqS (asgS 10 (shE (op2 subI (frE (callP 3 m_time_by (consL (vE 0) (consL (vE 1) (consL (vE 7) nilL))))) (frE (callP 3 m_time_by (consL (vE 0) (consL (vE 1) (consL (vE 6) nilL))))))))
  (ifS (orB (bE (op2 ltI (vE 10) (vE 8))) (andB (bE (op2 (isD true) (vE 9) (cE .non))) (bE (op2 gtI (vE 10) (vE 9)))))
  (retS (shE (cE (.bl false))))
  skipS)))
  (retS (shE (cE (.bl true))))))))
def m_is_course_of : List D → Option O := fnP 2 11 g_is_course_of
def g_check_course : DS :=
  (seqS (dropS (frE (callP 1 m_check_log (consL (vE 0) nilL))))
  (ifS (notB (bE (frE (callP 2 m_is_course_of (consL (vE 0) (consL (vE 1) nilL))))))
  stuckS
  skipS))
def m_check_course : List D → Option O := fnP 2 2 g_check_course
def g_times : DS :=
  (seqS (dropS (frE (callP 2 m_check_course (consL (vE 0) (consL (vE 1) nilL)))))
  (retS (callB (sh1 tupleD) (consL (frE (lcE [2] (itE seqS' (frE (methP "Log" "deed_names" 1 m_Log_deed_names (vE 0) nilL))) (bN 2) yesB (frE (callP 3 m_time_by (consL (vE 0) (consL (vE 1) (consL (vE 2) nilL))))))) nilL))))
def m_times : List D → Option O := fnP 2 3 g_times
def g_without : DS :=
  (seqS (dropS (frE (callP 2 m_check_lot (consL (vE 0) (consL (vE 1) nilL)))))
  (seqS (asgS 2 (lcE [3] (itE seqS' (frE (propE "Log" m_Log_deeds (vE 0)))) (bN 3) (bE (op2 (inD true) (op2 subD (vE 3) (cE (.int 0))) (vE 1))) (vE 3)))
  (seqS (asgS 4 (lcE [3] (itE seqS' (frE (propE "Log" m_Log_letters (vE 0)))) (bN 3) (andB (bE (op2 (inD true) (op2 subD (vE 3) (cE (.int 0))) (vE 1))) (bE (op2 (inD true) (op2 subD (vE 3) (cE (.int 1))) (vE 1)))) (vE 3)))
  (retS (callP 3 m_written (consL (frE (propE "Log" m_Log_towns (vE 0))) (consL (vF 2) (consL (vF 4) nilL))))))))
def m_without : List D → Option O := fnP 2 5 g_without
def g_clocks_of : DS :=
  (retS (lstE (consL (cE (.str ".")) (starL (frE (methP "Log" "town_names" 1 m_Log_town_names (vE 0) nilL)) nilL))))
def m_clocks_of : List D → Option O := fnP 1 1 g_clocks_of
def g_steps_of : DS :=
  (seqS (asgS 1 (lstE nilL))
  (seqS (forS (itE seqS' (frE (propE "Log" m_Log_towns (vE 0)))) (bT 3 (bCons (bN 2) (bCons (bN 3) (bCons (bN 4) bNil))))
  (seqS (appS (.sl 1) (tupE (consL (cE (.str ".")) (consL (vE 2) (consL (vE 3) (consL (tupE (consL (cE (.str "low")) (consL (vE 2) nilL))) nilL))))))
  (appS (.sl 1) (tupE (consL (vE 2) (consL (cE (.str ".")) (consL (op2 subI (cE (.int 0)) (vE 4)) (consL (tupE (consL (cE (.str "high")) (consL (vE 2) nilL))) nilL))))))))
  (seqS (forS (itE seqS' (frE (propE "Log" m_Log_letters (vE 0)))) (bT 4 (bCons (bN 5) (bCons (bN 6) (bCons (bN 7) (bCons (bN 8) bNil)))))
  (seqS (parO 10 11 (consO (shE (frE (methP "Log" "town_at" 2 m_Log_town_at (vE 0) (consL (vE 5) nilL)))) (consO (shE (frE (methP "Log" "town_at" 2 m_Log_town_at (vE 0) (consL (vE 6) nilL)))) nilO)))
  (seqS (asgS 9 (shE (op2 subI (frE (methP "Log" "shown_at" 2 m_Log_shown_at (vE 0) (consL (vE 6) nilL))) (frE (methP "Log" "shown_at" 2 m_Log_shown_at (vE 0) (consL (vE 5) nilL))))))
  (seqS (appS (.sl 1) (tupE (consL (vE 11) (consL (vE 10) (consL (op2 subI (vE 7) (vE 9)) (consL (tupE (consL (cE (.str "least")) (consL (vE 5) (consL (vE 6) nilL)))) nilL))))))
  (ifS (bE (op2 (isD true) (vE 8) (cE .non)))
  (appS (.sl 1) (tupE (consL (vE 10) (consL (vE 11) (consL (op2 subI (vE 9) (vE 8)) (consL (tupE (consL (cE (.str "most")) (consL (vE 5) (consL (vE 6) nilL)))) nilL))))))
  skipS)))))
  (retV 1))))
def m_steps_of : List D → Option O := fnP 1 12 g_steps_of
def g_Reach_take : DS :=
  (ifS (andB (bE (inP false (tupE (consL (vE 1) (consL (vE 2) nilL))) (.fd 0 "Reach" "own_most"))) (bE (inP false (tupE (consL (vE 2) (consL (vE 3) nilL))) (.fd 0 "Reach" "own_most"))))
  (seqS (asgS 4 (shE (op2 addD (subP (.fd 0 "Reach" "own_most") (tupE (consL (vE 1) (consL (vE 2) nilL)))) (subP (.fd 0 "Reach" "own_most") (tupE (consL (vE 2) (consL (vE 3) nilL)))))))
  (ifS (orB (bE (inP true (tupE (consL (vE 1) (consL (vE 3) nilL))) (.fd 0 "Reach" "own_most"))) (bE (op2 gtI (vE 4) (subP (.fd 0 "Reach" "own_most") (tupE (consL (vE 1) (consL (vE 3) nilL)))))))
  (seqS (asG (vE 4) (stB (.fd 0 "Reach" "own_most") (tupE (consL (vE 1) (consL (vE 3) nilL)))))
  (asG (subP (.fd 0 "Reach" "own_first") (tupE (consL (vE 1) (consL (vE 2) nilL)))) (stB (.fd 0 "Reach" "own_first") (tupE (consL (vE 1) (consL (vE 3) nilL))))))
  skipS))
  skipS)
def m_Reach_take : O → List D → Option (O × O) := fnR 4 5 g_Reach_take
def g_Reach_go : DS :=
  (seqS (forS (itE seqS' (pE (.fd 0 "Reach" "own_steps"))) (bN 1)
  (seqS (asG (vE 1) (bT 4 (bCons (nmB 2) (bCons (nmB 3) (bCons (nmB 4) (bCons (nmB 5) bNil))))))
  (ifS (andB (bE (op2 (eqD true) (vE 2) (vE 3))) (orB (bE (inP true (tupE (consL (vE 2) (consL (vE 3) nilL))) (.fd 0 "Reach" "own_most"))) (bE (op2 gtI (vE 4) (subP (.fd 0 "Reach" "own_most") (tupE (consL (vE 2) (consL (vE 3) nilL))))))))
  (asG (tupE (consL (vE 4) (consL (vE 1) nilL))) (bT 2 (bCons (stB (.fd 0 "Reach" "own_most") (tupE (consL (vE 2) (consL (vE 3) nilL)))) (bCons (stB (.fd 0 "Reach" "own_first") (tupE (consL (vE 2) (consL (vE 3) nilL)))) bNil))))
  skipS)))
  (forS (itE seqS' (pE (.fd 0 "Reach" "own_clocks"))) (bN 6)
  (forS (itE seqS' (pE (.fd 0 "Reach" "own_clocks"))) (bN 2)
  (forS (itE seqS' (pE (.fd 0 "Reach" "own_clocks"))) (bN 3)
  (dropS (frE (methR "Reach" "take" 4 m_Reach_take 0 (consL (vE 2) (consL (vE 6) (consL (vE 3) nilL))))))))))
def m_Reach_go : O → List D → Option (O × O) := fnR 1 7 g_Reach_go
def g_Reach_found_ring : DS :=
  (seqS (parO3 1 2 3 (consO (callB dictKO (consL (frE (lcE [4] (itE seqS' (pE (.fd 0 "Reach" "own_clocks"))) (bN 4) yesB (tupE (consL (vE 4) (consL (cE (.int 0)) nilL))))) nilL)) (consO (fun ρ => some (.ok [], ρ)) (consO (shE (cE .non)) nilO))))
  (seqS (forS (itL rng1D (consL (op2 addD (frE (callB (sh1 lenD) (consL (pE (.fd 0 "Reach" "own_clocks")) nilL))) (cE (.int 1))) nilL)) (bN 5)
  (seqS (asgS 3 (shE (cE .non)))
  (seqS (forS (itE seqS' (pE (.fd 0 "Reach" "own_steps"))) (bN 6)
  (seqS (asG (vE 6) (bT 4 (bCons (nmB 7) (bCons (nmB 8) (bCons (nmB 9) (bCons (nmB 10) bNil))))))
  (ifS (bE (op2 gtI (op2 addD (subP (.sl 1) (vE 7)) (vE 9)) (subP (.sl 1) (vE 8))))
  (asG (tupE (consL (op2 addD (subP (.sl 1) (vE 7)) (vE 9)) (consL (vE 6) (consL (vE 8) nilL)))) (bT 3 (bCons (stB (.sl 1) (vE 8)) (bCons (stB (.sl 2) (vE 8)) (bCons (nmB 3) bNil)))))
  skipS)))
  (ifS (bE (op2 (isD false) (vE 3) (cE .non)))
  (retS (shE (cE .non)))
  skipS))))
  (seqS (forS (itE seqS' (pE (.fd 0 "Reach" "own_clocks"))) (bN 5)
  (asgS 3 (shE (op2 subD (subP (.sl 2) (vE 3)) (cE (.int 0))))))
  (seqS (parO 11 12 (consO (shE (vE 3)) (consO (lstE nilL) nilO)))
  (seqS (whileR (orB (bE (eqP false (.sl 12) (frE (lstE nilL)))) (bE (op2 (eqD true) (vE 3) (vE 11))))
  (seqS (appS (.sl 12) (op2 subD (subP (.sl 2) (vE 3)) (cE (.int 3))))
  (asgS 3 (shE (op2 subD (subP (.sl 2) (vE 3)) (cE (.int 0)))))) 200)
  (retS (callB (sh1 tupleD) (consL (frE (revP (.sl 12))) nilL))))))))
def m_Reach_found_ring : O → List D → Option (O × O) := fnR 1 13 g_Reach_found_ring
def g_Reach__init_ : DS :=
  (seqS (setF 0 "Reach" "own_steps" (shE (frE (callP 1 m_steps_of (consL (vE 1) nilL)))))
  (seqS (setF 0 "Reach" "own_clocks" (shE (frE (callP 1 m_clocks_of (consL (vE 1) nilL)))))
  (seqS (setF 0 "Reach" "own_ring" (shE (frE (methR "Reach" "found_ring" 1 m_Reach_found_ring 0 nilL))))
  (seqS (setF 0 "Reach" "own_most" (callB dictTO (consL (frE (lcE [2] (itE seqS' (pE (.fd 0 "Reach" "own_clocks"))) (bN 2) yesB (tupE (consL (tupE (consL (vE 2) (consL (vE 2) nilL))) (consL (cE (.int 0)) nilL))))) nilL)))
  (seqS (setF 0 "Reach" "own_first" (fun ρ => some (.ot [], ρ)))
  (ifS (bE (op2 (isD false) (pE (.fd 0 "Reach" "own_ring")) (cE .non)))
  (dropS (frE (methR "Reach" "go" 1 m_Reach_go 0 nilL)))
  skipS))))))
def m_Reach__init_ : O → List D → Option (O × O) := fnR 2 3 g_Reach__init_
def g_Reach_ring : DS :=
  (retS (shE (pE (.fd 0 "Reach" "own_ring"))))
def m_Reach_ring : List D → Option O := fnP 1 1 g_Reach_ring
def g_Reach_most : DS :=
  (retS (shE (op2 subD (pE (.fd 0 "Reach" "own_most")) (tupE (consL (vE 1) (consL (vE 2) nilL))))))
def m_Reach_most : List D → Option O := fnP 3 3 g_Reach_most
def g_Reach_course : DS :=
  (retS (callB (sh1 tupleD) (consL (frE (lcE [2] (itE seqS' (frE (slE (pE (.fd 0 "Reach" "own_clocks")) (atPa (cE (.int 1))) noPa))) (bN 2) yesB (op2 subI (frE (methP "Reach" "most" 3 m_Reach_most (vE 0) (consL (vE 1) (consL (vE 2) nilL)))) (frE (methP "Reach" "most" 3 m_Reach_most (vE 0) (consL (vE 1) (consL (cE (.str ".")) nilL))))))) nilL)))
def m_Reach_course : List D → Option O := fnP 2 3 g_Reach_course
def g_reach_of : DS :=
  (seqS (asgS 1 (shE (frE (makeE "Reach" 2 m_Reach__init_ (consL (vE 0) nilL)))))
  (seqS (ifS (bE (op2 (isD true) (frE (methP "Reach" "ring" 1 m_Reach_ring (vE 1) nilL)) (cE .non)))
  stuckS
  skipS)
  (retS (shE (vE 1)))))
def m_reach_of : List D → Option O := fnP 1 2 g_reach_of
def g_fitting : DS :=
  (seqS (dropS (frE (callP 1 m_check_log (consL (vE 0) nilL))))
  (seqS (asgS 1 (shE (frE (makeE "Reach" 2 m_Reach__init_ (consL (vE 0) nilL)))))
  (retS (shE (ifE (bE (op2 (isD false) (frE (methP "Reach" "ring" 1 m_Reach_ring (vE 1) nilL)) (cE .non))) (tupE (consL (cE (.str "course")) (consL (frE (methP "Reach" "course" 2 m_Reach_course (vE 1) (consL (cE (.str ".")) nilL))) nilL))) (tupE (consL (cE (.str "ring")) (consL (frE (methP "Reach" "ring" 1 m_Reach_ring (vE 1) nilL)) nilL))))))))
def m_fitting : List D → Option O := fnP 1 2 g_fitting
def g_span_by : DS :=
  (seqS (parO 3 4 (consO (shE (frE (methP "Log" "shown_at" 2 m_Log_shown_at (vE 0) (consL (vE 2) nilL)))) (consO (shE (frE (methP "Log" "town_at" 2 m_Log_town_at (vE 0) (consL (vE 2) nilL)))) nilO)))
  (retS (shE (tupE (consL (op2 addD (vE 3) (frE (methP "Reach" "most" 3 m_Reach_most (vE 1) (consL (vE 4) (consL (cE (.str ".")) nilL))))) (consL (op2 subI (vE 3) (frE (methP "Reach" "most" 3 m_Reach_most (vE 1) (consL (cE (.str ".")) (consL (vE 4) nilL))))) nilL))))))
def m_span_by : List D → Option O := fnP 3 5 g_span_by
def g_span_of : DS :=
  (seqS (dropS (frE (callP 2 m_check_deed (consL (vE 0) (consL (vE 1) nilL)))))
  (retS (callP 3 m_span_by (consL (vE 0) (consL (frE (callP 1 m_reach_of (consL (vE 0) nilL))) (consL (vE 1) nilL))))))
def m_span_of : List D → Option O := fnP 2 2 g_span_of
end Mi
/-! text S1 -/
set_option linter.all false
set_option maxRecDepth 100000
set_option maxHeartbeats 1000000
namespace Mi
open PySem L2 Dl
theorem p_is_integer (n : Int) : m_is_integer [.int n] = some (.sh (.bl true)) := by rfl
theorem p_is_between (n a b : Int) : m_is_between [.int n, .int a, .int b] = some (.sh (.bl (decide (a ≤ n ∧ n ≤ b)))) := by
  by_cases h : a ≤ n <;> simp [m_is_between, fnP, g_is_between, andD, p_is_integer, chF, h]
/-! ### sources -/
def srcD (p : Int × Int) : D := .tup [.int p.1, .int p.2]
theorem pairs_zip {X : Type} (enc : X → D) : ∀ (l : List X) (k : Nat), pairsD k (l.map enc) = (l.zipIdx k).map fun p => .tup [.int (p.2 : Nat), enc p.1]
  | [], _ => rfl
  | x :: r, k => by simp [pairsD, pairs_zip enc r (k + 1)]
def havL (l : List (Int × Int)) (t : Int) : List Nat := l.zipIdx.filterMap fun p => if p.1.1 ≤ t ∧ t ≤ p.1.2 then some p.2 else none
def natsD (l : List Nat) : List D := l.map fun i => .int (i : Nat)
theorem p_having (l : List (Int × Int)) (hl : small l.length = true) (t : Int) : m_having [.tup (l.map srcD), .int t] = some (.ol (natsD (havL l t))) := by
  unfold m_having fnP g_having
  simp only [ev_ret]
  rw [lcE_pure (enc := fun p => .tup [.int (p.2 : Nat), srcD p.1]) (xs := l.zipIdx) (F := fun p => if p.1.1 ≤ t ∧ t ≤ p.1.2 then some (.int (p.2 : Nat)) else none) (ρ1 := [W.w false (O.sh (D.tup (List.map srcD l))), W.w false (O.sh (D.int t)), W.un, W.un, W.un])]
  · show some (O.ol _) = some (O.ol _)
    congr 2
    unfold natsD havL
    rw [List.map_filterMap]
    congr 1
    funext p
    split <;> rfl
  · simp [enumD, pairs_zip]
  · simpa using hl
  · intro x _
    by_cases h1 : x.1.1 ≤ t
    · by_cases h2 : t ≤ x.1.2
      · exact .inr ⟨.int (x.2 : Nat), by simp [h1, h2], by simp [wipeW, srcD, chF, h1, h2]⟩
      · exact .inl ⟨by simp [h1, h2], by simp [wipeW, srcD, chF, h1, h2]⟩
    · exact .inl ⟨by simp [h1], by simp [wipeW, srcD, chF, h1]⟩
def edgL (l : List (Int × Int)) : List Int := sortU (l.map (·.1) ++ l.map fun p => p.2 + 1)
def pieL (l : List (Int × Int)) : List (Int × Int × List Nat) := ((edgL l).zip (edgL l).tail).map fun p => (p.1, p.2 - 1, havL l p.1)
def pieD (p : Int × Int × List Nat) : D := .tup [.int p.1, .int p.2.1, .lst (natsD p.2.2)]
theorem ints_of (l : List Int) : intsD (l.map D.int) = some l := by
  induction l with
  | nil => rfl
  | cons i r ih => simp [intsD, ih]
theorem cut_one (l : List D) : cutD l (some 1) none = l.tail := by
  cases l with
  | nil => rfl
  | cons x r =>
    unfold cutD HT.sIx
    simp
theorem insI_len (k : Int) : ∀ l : List Int, (insI k l).length ≤ l.length + 1
  | [] => Nat.le_refl _
  | j :: r => by
    unfold insI
    split
    · simp
    · split
      · simp
      · have := insI_len k r
        simp only [List.length_cons]
        omega
theorem sortU_len : ∀ l : List Int, (sortU l).length ≤ l.length
  | [] => Nat.le_refl _
  | k :: r => by
    have h1 := insI_len k (sortU r)
    have h2 := sortU_len r
    show (insI k (sortU r)).length ≤ r.length + 1
    omega
theorem sortSet_ints {l : List Int} (h : l.length < 63) : sortSet (.lst (l.map D.int)) = some (.ol ((sortU l).map D.int)) := by
  unfold sortSet
  simp only [ints_of, List.length_map, h, if_true]
theorem edg_len (l : List (Int × Int)) : (edgL l).length ≤ 2 * l.length := by
  have := sortU_len (l.map (·.1) ++ l.map fun p => p.2 + 1)
  simp only [List.length_append, List.length_map] at this
  unfold edgL
  omega
theorem p_pieces_of (l : List (Int × Int)) (hl : l.length ≤ 30) : m_pieces_of [.tup (l.map srcD)] = some (.ol ((pieL l).map pieD)) := by
  have s1 : small l.length = true := decide_eq_true (by omega)
  unfold m_pieces_of fnP g_pieces_of
  simp only [ev_seq, ev_asg, ev_sh, ev_fr]
  have e1 : lcE [2, 3] (itE seqS' (vE 0)) (bT 2 (bCons (bN 2) (bCons (bN 3) bNil))) yesB (vE 2) [W.w false (O.sh (D.tup (l.map srcD))), W.un, W.un, W.un, W.un, W.un] = some (.ol ((l.map (·.1)).map D.int), [W.w false (O.sh (D.tup (l.map srcD))), W.un, W.un, W.un, W.un, W.un]) := by
    rw [lcE_map (xs := l) (enc := srcD) (F := fun p => .int p.1) (ρ1 := [W.w false (O.sh (D.tup (l.map srcD))), W.un, W.un, W.un, W.un, W.un]) (by simp [seqS', seqD]) s1 fun x _ => by simp [wipeW, srcD]]
    simp
  have e2 : lcE [2, 3] (itE seqS' (vE 0)) (bT 2 (bCons (bN 2) (bCons (bN 3) bNil))) yesB (op2 addD (vE 3) (cE (.int 1))) [W.w false (O.sh (D.tup (l.map srcD))), W.un, W.un, W.un, W.un, W.un] = some (.ol ((l.map fun p => p.2 + 1).map D.int), [W.w false (O.sh (D.tup (l.map srcD))), W.un, W.un, W.un, W.un, W.un]) := by
    rw [lcE_map (xs := l) (enc := srcD) (F := fun p => .int (p.2 + 1)) (ρ1 := [W.w false (O.sh (D.tup (l.map srcD))), W.un, W.un, W.un, W.un, W.un]) (by simp [seqS', seqD]) s1 fun x _ => by simp [wipeW, srcD]]
    simp
  have e3 : sortSetE (op2 addD (frE (lcE [2, 3] (itE seqS' (vE 0)) (bT 2 (bCons (bN 2) (bCons (bN 3) bNil))) yesB (vE 2))) (frE (lcE [2, 3] (itE seqS' (vE 0)) (bT 2 (bCons (bN 2) (bCons (bN 3) bNil))) yesB (op2 addD (vE 3) (cE (.int 1)))))) [W.w false (O.sh (D.tup (l.map srcD))), W.un, W.un, W.un, W.un, W.un] = some (.ol ((edgL l).map D.int), [W.w false (O.sh (D.tup (l.map srcD))), W.un, W.un, W.un, W.un, W.un]) := by
    unfold sortSetE
    simp only [ev_op2, ev_fr, e1, Option.map_some, frz_ol, e2]
    have e4 : addD (.lst ((l.map (·.1)).map D.int)) (.lst ((l.map fun p : Int × Int => p.2 + 1).map D.int)) = some (.lst ((l.map (·.1) ++ l.map fun p : Int × Int => p.2 + 1).map D.int)) := by
      unfold addD
      simp [small]
      omega
    rw [e4]
    simp only [Option.map_some]
    rw [sortSet_ints (by simp only [List.length_append, List.length_map]; omega)]
    rfl
  simp only [List.map_cons, List.map_nil, List.cons_append, List.nil_append, show (6 - 1 : Nat) = 5 from rfl, show List.replicate 5 W.un = [W.un, W.un, W.un, W.un, W.un] from rfl]
  rw [e3]
  have e5 : ∀ x : List W, lcE [4, 5] (itL zip2D (consL (vE 1) (consL (frE (slE (vE 1) (atPa (cE (D.int 1))) noPa)) nilL))) (bT 2 (bCons (bN 4) (bCons (bN 5) bNil))) yesB
      (tupE (consL (vE 4) (consL (op2 subI (vE 5) (cE (D.int 1))) (consL (frE (callP 2 m_having (consL (vE 0) (consL (vE 4) nilL)))) nilL))))
      [W.w false (O.sh (D.tup (l.map srcD))), W.w false (O.sh (D.lst ((edgL l).map D.int))), W.un, W.un, W.un, W.un] = some (.ol ((pieL l).map pieD), [W.w false (O.sh (D.tup (l.map srcD))), W.w false (O.sh (D.lst ((edgL l).map D.int))), W.un, W.un, W.un, W.un]) := by
    intro _
    rw [lcE_map (xs := (edgL l).zip (edgL l).tail) (enc := srcD) (F := fun p => pieD (p.1, p.2 - 1, havL l p.1)) (ρ1 := [W.w false (O.sh (D.tup (l.map srcD))), W.w false (O.sh (D.lst ((edgL l).map D.int))), W.un, W.un, W.un, W.un])]
    · unfold pieL
      rw [List.map_map]
      rfl
    · simp [slO, cut_one, zip2D, zipD]
      rw [← List.map_tail, List.zip_map, List.map_map]
      apply List.map_congr_left
      intro x _
      simp [srcD]
    · have := edg_len l
      exact decide_eq_true (by rw [List.length_zip]; omega)
    · intro x _
      simp [wipeW, srcD, p_having l s1, small, pieD]
  simp only [Option.map_some, frz_ol]
  rw [if_pos (show nb _ 1 = true from rfl)]
  simp only [List.set_cons_succ, List.set_cons_zero, ev_ret]
  rw [e5 []]
  rfl
theorem pie_len (l : List (Int × Int)) : (pieL l).length ≤ 2 * l.length := by
  have := edg_len l
  unfold pieL
  rw [List.length_map, List.length_zip]
  omega
theorem hav_len (l : List (Int × Int)) (t : Int) : (havL l t).length ≤ l.length := by
  have := List.length_filterMap_le (fun p : (Int × Int) × Nat => if p.1.1 ≤ t ∧ t ≤ p.1.2 then some p.2 else none) l.zipIdx
  rwa [List.length_zipIdx] at this
theorem natsD_len (l : List Nat) : (natsD l).length = l.length := List.length_map _
/-- most sources that agree -/
def mostL (l : List (Int × Int)) : Option Int := maxL ((pieL l).map fun p => (p.2.2.length : Int))
theorem p_most_agreed (l : List (Int × Int)) (hl : l.length ≤ 30) : m_most_agreed [.tup (l.map srcD)] = (mostL l).map fun i => .sh (.int i) := by
  have hp := pie_len l
  unfold m_most_agreed fnP g_most_agreed
  simp only [ev_ret, ev_callB, ev_cons, ev_nil, ev_fr, List.map_cons, List.map_nil, List.cons_append, List.nil_append, show (4 - 1 : Nat) = 3 from rfl, show List.replicate 3 W.un = [W.un, W.un, W.un] from rfl]
  rw [lcE_map (xs := pieL l) (enc := pieD) (F := fun p => .int ((natsD p.2.2).length : Nat)) (ρ1 := [W.w false (O.sh (D.tup (l.map srcD))), W.un, W.un, W.un])]
  · simp only [Option.map_some, frz_ol, ev_sh1, natsD_len]
    have e : lintsD (.lst ((pieL l).map fun p => D.int (p.2.2.length : Nat))) = some ((pieL l).map fun p => (p.2.2.length : Int)) := by
      have := ints_of ((pieL l).map fun p => (p.2.2.length : Int))
      rw [List.map_map] at this
      exact this
    unfold maxD
    rw [e]
    unfold mostL
    dsimp only
    cases maxL ((pieL l).map fun p => (p.2.2.length : Int)) <;> rfl
  · simp [p_pieces_of l hl, seqS', seqD]
  · exact decide_eq_true (by omega)
  · intro x _
    exact ⟨_, _, rfl, rfl, rfl⟩
end Mi
/-! text S2 -/
set_option linter.all false
set_option maxRecDepth 100000
set_option maxHeartbeats 1000000
namespace Mi
open PySem L2 Dl
def joinF (f : List (Int × Int)) (p : Int × Int) : List (Int × Int) := match f.getLast? with
  | some q => if q.2 + 1 = p.1 then f.dropLast ++ [(q.1, p.2)] else f ++ [p]
  | none => [p]
def joinL' (l : List (Int × Int)) : List (Int × Int) := l.foldl joinF []
theorem okDs_src (n : Nat) : ∀ l : List (Int × Int), okDs (n + 1) (l.map srcD) = true
  | [] => rfl
  | x :: r => by
    show (okD (n + 1) (srcD x) && okDs (n + 1) (r.map srcD)) = true
    rw [okDs_src n r]
    rfl
theorem ne_nil {l : List (Int × Int)} : eqD true (.lst (l.map srcD)) (.lst []) = some (.bl (!l.isEmpty)) := by
  rw [eqD_ok (by show (decide (0 < 60) && okDs 59 (l.map srcD)) = true; rw [okDs_src 58]; rfl) rfl]
  cases l <;> rfl
abbrev jS (l : List (Int × Int)) (s : List (Int × Int) × W × W) : List W := [W.w false (.sh (.lst (l.map srcD))), W.w false (.ol (s.1.map srcD)), s.2.1, s.2.2]
theorem eqI (neg : Bool) (i j : Int) : eqD neg (.int i) (.int j) = some (.bl (if neg then !(i == j) else (i == j))) := by
  rw [eqD_ok rfl rfl]; rfl
theorem subO_last (g : List (Int × Int)) (q : Int × Int) : subO (.ol ((g ++ [q]).map srcD)) (.int (-1)) = some (srcD q) := by
  show atI _ (-1) = _
  rw [List.map_append]
  exact Dl.atI_last _ _
theorem putO_last (g : List (Int × Int)) (q r : Int × Int) : putO (.ol ((g ++ [q]).map srcD)) (.int (-1)) (srcD r) = some (.ol ((g ++ [r]).map srcD)) := by
  show (ixN ((g ++ [q]).map srcD).length (-1)).map _ = _
  rw [List.length_map, List.length_append, List.length_singleton, ixN_last]
  simp only [Option.map_some, List.map_append, List.map_cons, List.map_nil]
  rw [List.set_append_right _ _ (by simp)]
  simp
theorem sub0 (q : Int × Int) : subD (srcD q) (.int 0) = some (.int q.1) := rfl
theorem sub1 (q : Int × Int) : subD (srcD q) (.int 1) = some (.int q.2) := rfl
theorem p_join_step (l f : List (Int × Int)) (u v : W) (x : Int × Int) (hf : f.length ≤ 1000) :
    ifS (andB (bE (eqP true (.sl 1) (frE (lstE nilL)))) (bE (op2 (eqD false) (op2 addD (op2 subD (subP (.sl 1) (op1 negI (cE (.int 1)))) (cE (.int 1))) (cE (.int 1))) (vE 2))))
      (asG (tupE (consL (op2 subD (subP (.sl 1) (op1 negI (cE (.int 1)))) (cE (.int 0))) (consL (vE 3) nilL))) (stB (.sl 1) (op1 negI (cE (.int 1)))))
      (appS (.sl 1) (tupE (consL (vE 2) (consL (vE 3) nilL)))) [W.w false (.sh (.lst (l.map srcD))), W.w false (.ol (f.map srcD)), W.w false (.sh (.int x.1)), W.w false (.sh (.int x.2))] =
    some (.nx [W.w false (.sh (.lst (l.map srcD))), W.w false (.ol ((joinF f x).map srcD)), W.w false (.sh (.int x.1)), W.w false (.sh (.int x.2))]) := by
  have hs : small f.length = true := decide_eq_true (by omega)
  have e0 : bE (eqP true (.sl 1) (frE (lstE nilL))) [W.w false (.sh (.lst (l.map srcD))), W.w false (.ol (f.map srcD)), W.w false (.sh (.int x.1)), W.w false (.sh (.int x.2))] = some (!f.isEmpty, [W.w false (.sh (.lst (l.map srcD))), W.w false (.ol (f.map srcD)), W.w false (.sh (.int x.1)), W.w false (.sh (.int x.2))]) := by
    unfold bE eqP
    simp [small, ne_nil]
  rcases (by rcases List.eq_nil_or_concat f with h | ⟨g, q, h⟩; exact .inl h; exact .inr ⟨g, q, by rw [h, List.concat_eq_append]⟩ : f = [] ∨ ∃ g q, f = g ++ [q]) with rfl | ⟨g, q, rfl⟩
  · simp only [ev_if, ev_andB, e0]
    simp [small, srcD, joinF]
  · simp only [ev_if, ev_andB, e0]
    have e1 : subP (.sl 1) (op1 negI (cE (.int 1))) [W.w false (.sh (.lst (l.map srcD))), W.w false (.ol ((g ++ [q]).map srcD)), W.w false (.sh (.int x.1)), W.w false (.sh (.int x.2))] = some (srcD q, [W.w false (.sh (.lst (l.map srcD))), W.w false (.ol ((g ++ [q]).map srcD)), W.w false (.sh (.int x.1)), W.w false (.sh (.int x.2))]) := by
      have := subO_last g q
      simp only [ev_subP, ev_pgS, ev_gSl, ev_op1, ev_c, negI, List.getElem?_cons_succ, List.getElem?_cons_zero, Option.map_some, this]
    have e2 : (g ++ [q]).isEmpty = false := by cases g <;> rfl
    have e3 : (g ++ [q]).getLast? = some q := by simp
    have e4 : (g ++ [q]).dropLast = g := by simp
    have e5 : joinF (g ++ [q]) x = if q.2 + 1 = x.1 then g ++ [(q.1, x.2)] else (g ++ [q]) ++ [x] := by
      unfold joinF
      rw [e3]
      dsimp only
      rw [e4]
    rw [e2, e5]
    simp only [Bool.not_false, ev_bE, ev_op2, e1, ev_c, sub1, Option.map_some, ii_add, ev_v, List.getElem?_cons_succ, List.getElem?_cons_zero, eqI, Bool.false_eq_true, if_false]
    by_cases h : q.2 + 1 = x.1
    · have hb : (q.2 + 1 == x.1) = true := by simpa using h
      rw [hb, if_pos h]
      have e6 := putO_last g q (q.1, x.2)
      simp only [ev_asG, ev_tup, ev_cons, ev_op2, e1, ev_c, sub0, Option.map_some, ev_v, ev_nil, List.getElem?_cons_succ, List.getElem?_cons_zero]
      show Option.map Res.nx (Option.map _ (putO (.ol ((g ++ [q]).map srcD)) (.int (-1)) (srcD (q.1, x.2)))) = _
      rw [e6]
      rfl
    · have hb : (q.2 + 1 == x.1) = false := by simpa using h
      rw [hb, if_neg h]
      have e7 : small ((g ++ [q]).map srcD).length = true := by rw [List.length_map]; exact hs
      simp only [ev_app, ev_pgS, ev_gSl, ev_tup, ev_cons, ev_v, ev_nil, List.getElem?_cons_succ, List.getElem?_cons_zero, Option.map_some]
      show (if small ((g ++ [q]).map srcD).length = true then some (Res.nx (pput (.sl 1) (.ol ((g ++ [q]).map srcD ++ [srcD x])) _)) else none) = _
      rw [if_pos e7]
      simp [srcD]
end Mi
/-! text S3 -/
set_option linter.all false
set_option maxRecDepth 100000
set_option maxHeartbeats 1000000
namespace Mi
open PySem L2 Dl
theorem joinF_len (f : List (Int × Int)) (x : Int × Int) : (joinF f x).length ≤ f.length + 1 := by
  unfold joinF
  split
  · split
    · rw [List.length_append, List.length_dropLast]; simp
    · simp
  · simp
theorem p_joined (l : List (Int × Int)) (hl : l.length ≤ 900) : m_joined [.lst (l.map srcD)] = some (.sh (.tup ((joinL' l).map srcD))) := by
  unfold m_joined fnP g_joined
  simp only [ev_seq, ev_asg, ev_lst, ev_nil, List.map_cons, List.map_nil, List.cons_append, List.nil_append, show (4 - 1 : Nat) = 3 from rfl, show List.replicate 3 W.un = [W.un, W.un, W.un] from rfl]
  have key := forR_inv (enc := srcD) (st := jS l) (b := bT 2 (bCons (bN 2) (bCons (bN 3) bNil))) (body := ifS (andB (bE (eqP true (.sl 1) (frE (lstE nilL)))) (bE (op2 (eqD false) (op2 addD (op2 subD (subP (.sl 1) (op1 negI (cE (.int 1)))) (cE (.int 1))) (cE (.int 1))) (vE 2))))
      (asG (tupE (consL (op2 subD (subP (.sl 1) (op1 negI (cE (.int 1)))) (cE (.int 0))) (consL (vE 3) nilL))) (stB (.sl 1) (op1 negI (cE (.int 1)))))
      (appS (.sl 1) (tupE (consL (vE 2) (consL (vE 3) nilL)))))
    (f := fun s x => (joinF s.1 x, W.w false (.sh (.int x.1)), W.w false (.sh (.int x.2)))) (P := fun xs s => s.1.length + xs.length ≤ 900)
    (fun x xs s p => by
      simp only [List.length_cons] at p
      have := joinF_len s.1 x
      exact ⟨⟨_, rfl, p_join_step l s.1 s.2.1 s.2.2 x (by omega)⟩, by dsimp only; omega⟩) l ([], W.un, W.un) (by simpa using hl)
  have k2 : forS (itE seqS' (vE 0)) (bT 2 (bCons (bN 2) (bCons (bN 3) bNil))) (ifS (andB (bE (eqP true (.sl 1) (frE (lstE nilL)))) (bE (op2 (eqD false) (op2 addD (op2 subD (subP (.sl 1) (op1 negI (cE (.int 1)))) (cE (.int 1))) (cE (.int 1))) (vE 2))))
      (asG (tupE (consL (op2 subD (subP (.sl 1) (op1 negI (cE (.int 1)))) (cE (.int 0))) (consL (vE 3) nilL))) (stB (.sl 1) (op1 negI (cE (.int 1)))))
      (appS (.sl 1) (tupE (consL (vE 2) (consL (vE 3) nilL))))) (jS l ([], W.un, W.un)) = some (.nx (jS l (l.foldl (fun s x => (joinF s.1 x, W.w false (.sh (.int x.1)), W.w false (.sh (.int x.2)))) ([], W.un, W.un)))) := key
  show (match (match forS (itE seqS' (vE 0)) _ _ (jS l ([], W.un, W.un)) with | some (.nx ρ1) => retS (callB (sh1 tupleD) (consL (vF 1) nilL)) ρ1 | r => r) with | some (.rt o ρ) => some o | some (.nx ρ) => some (O.sh D.non) | x => none) = _
  rw [k2]
  have e3 : ∀ (xs : List (Int × Int)) (s : List (Int × Int) × W × W), (xs.foldl (fun s x => (joinF s.1 x, W.w false (.sh (.int x.1)), W.w false (.sh (.int x.2)))) s).1 = xs.foldl joinF s.1 := by
    intro xs
    induction xs with
    | nil => intro s; rfl
    | cons x xs ih => intro s; rw [List.foldl_cons, List.foldl_cons, ih]
  have e4 := e3 l ([], W.un, W.un)
  generalize l.foldl (fun s x => (joinF s.1 x, W.w false (.sh (.int x.1)), W.w false (.sh (.int x.2)))) (([], W.un, W.un) : List (Int × Int) × W × W) = z at e4
  obtain ⟨z1, z2, z3⟩ := z
  dsimp only at e4
  subst e4
  rfl
/-- what is told of many sources that agree -/
def agrL (l : List (Int × Int)) (many : Int) : List (Int × Int) := joinL' ((pieL l).filterMap fun p => if many ≤ (p.2.2.length : Int) then some (p.1, p.2.1) else none)
theorem p_told_agreed (l : List (Int × Int)) (hl : l.length ≤ 30) (many : Int) : m_told_agreed [.tup (l.map srcD), .int many] = some (.sh (.tup ((agrL l many).map srcD))) := by
  have hp := pie_len l
  unfold m_told_agreed fnP g_told_agreed
  simp only [ev_ret, ev_callP, ev_cons, ev_nil, ev_fr, List.map_cons, List.map_nil, List.cons_append, List.nil_append, show (5 - 2 : Nat) = 3 from rfl, show List.replicate 3 W.un = [W.un, W.un, W.un] from rfl]
  rw [lcE_pure (xs := pieL l) (enc := pieD) (F := fun p => if many ≤ (p.2.2.length : Int) then some (srcD (p.1, p.2.1)) else none) (ρ1 := [W.w false (O.sh (D.tup (l.map srcD))), W.w false (.sh (.int many)), W.un, W.un, W.un])]
  · simp only [Option.map_some, frz_ol]
    have e : (pieL l).filterMap (fun p => if many ≤ (p.2.2.length : Int) then some (srcD (p.1, p.2.1)) else none) = ((pieL l).filterMap fun p => if many ≤ (p.2.2.length : Int) then some (p.1, p.2.1) else none).map srcD := by
      rw [List.map_filterMap]
      congr 1
      funext p
      split <;> rfl
    have hq : ((pieL l).filterMap fun p => if many ≤ (p.2.2.length : Int) then some (p.1, p.2.1) else none).length ≤ (pieL l).length := List.length_filterMap_le _ _
    rw [e]
    show (match Option.map (fun p => Res.rt p.1 p.2) (Option.map (fun o => (o, _)) (m_joined [D.lst _])) with | some (.rt o ρ) => some o | some (.nx ρ) => some (O.sh D.non) | x => none) = _
    rw [p_joined _ (by omega)]
    rfl
  · simp [p_pieces_of l hl, seqS', seqD]
  · exact decide_eq_true (by omega)
  · intro x _
    have hg : geI (.int ((natsD x.2.2).length : Nat)) (.int many) = some (.bl (decide (many ≤ (x.2.2.length : Int)))) := by rw [natsD_len]; rfl
    by_cases h : many ≤ (x.2.2.length : Int)
    · refine .inr ⟨_, if_pos h, [W.w false (O.sh (D.tup (l.map srcD))), W.w false (.sh (.int many)), W.w false (.sh (.int x.1)), W.w false (.sh (.int x.2.1)), W.w false (.sh (.lst (natsD x.2.2)))], [W.w false (O.sh (D.tup (List.map srcD l))), W.w false (.sh (.int many)), W.w false (.sh (.int x.1)), W.w false (.sh (.int x.2.1)), W.w false (.sh (.lst (natsD x.2.2)))], [W.w false (O.sh (D.tup (List.map srcD l))), W.w false (.sh (.int many)), W.w false (.sh (.int x.1)), W.w false (.sh (.int x.2.1)), W.w false (.sh (.lst (natsD x.2.2)))], rfl, ?_, rfl, rfl⟩
      rw [decide_eq_true h] at hg
      simp [lenD, hg]
    · refine .inl ⟨if_neg h, [W.w false (O.sh (D.tup (l.map srcD))), W.w false (.sh (.int many)), W.w false (.sh (.int x.1)), W.w false (.sh (.int x.2.1)), W.w false (.sh (.lst (natsD x.2.2)))], [W.w false (O.sh (D.tup (l.map srcD))), W.w false (.sh (.int many)), W.w false (.sh (.int x.1)), W.w false (.sh (.int x.2.1)), W.w false (.sh (.lst (natsD x.2.2)))], rfl, ?_, rfl⟩
      rw [decide_eq_false h] at hg
      simp [lenD, hg]
end Mi
/-! text S4 -/
set_option linter.all false
set_option maxRecDepth 100000
set_option maxHeartbeats 1000000
namespace Mi
open PySem L2 Dl
def couldD (l : List (Int × Int)) (m w : Int) : D := if w < (l.length : Int) - m then .tup [.str "more", .int ((l.length : Int) - m)] else .tup [.str "spans", .tup ((agrL l ((l.length : Int) - w)).map srcD)]
theorem p_told_could (l : List (Int × Int)) (hl : l.length ≤ 30) {m : Int} (hm : mostL l = some m) (w : Int) : m_told_could [.tup (l.map srcD), .int w] = some (.sh (couldD l m w)) := by
  have e1 := p_most_agreed l hl
  rw [hm] at e1
  have e2 := p_told_agreed l hl ((l.length : Int) - w)
  unfold m_told_could fnP g_told_could couldD
  by_cases h : w < (l.length : Int) - m
  · simp [e1, lenD, nb, h, ifE]
    rfl
  · simp [e1, e2, lenD, nb, h, ifE]
    rfl
/-- sources as the law asks them -/
structure Src (l : List (Int × Int)) : Prop where
  ne : l ≠ []
  le : l.length ≤ 20
  ok : ∀ p ∈ l, -99999 ≤ p.1 ∧ p.1 ≤ p.2 ∧ p.2 ≤ 99999
theorem bls_of (l : List Bool) : blsD (l.map D.bl) = some l := by
  induction l with
  | nil => rfl
  | cons i r ih => simp [blsD, ih]
theorem all_true {X : Type} (l : List X) : allD (.lst (l.map fun _ => D.bl true)) = some (.bl true) := by
  have := bls_of (l.map fun _ => true)
  rw [List.map_map] at this
  unfold allD
  have e : (l.map fun _ => D.bl true) = l.map (D.bl ∘ fun _ => true) := rfl
  rw [e]
  show Option.map (fun bs => D.bl (bs.all id)) (blsD _) = _
  rw [this]
  simp
theorem all_rep (n : Nat) : allD (.lst (List.replicate n (D.bl true))) = some (.bl true) := by
  have := all_true (List.replicate n ())
  rwa [List.map_replicate] at this
theorem p_is_source (p : Int × Int) (h : -99999 ≤ p.1 ∧ p.1 ≤ p.2 ∧ p.2 ≤ 99999) : m_is_source [srcD p] = some (.sh (.bl true)) := by
  have e1 := p_is_between p.1 (-99999) 99999
  have e2 := p_is_between p.2 (-99999) 99999
  rw [decide_eq_true (by omega)] at e1 e2
  unfold m_is_source fnP g_is_source
  have e3 : lcE [1] (itE seqS' (vE 0)) (bN 1) yesB (frE (callP 3 m_is_between (consL (vE 1) (consL (op2 subI (cE (.int 0)) (cE (.int 99999))) (consL (cE (.int 99999)) nilL))))) [W.w false (.sh (srcD p)), W.un] = some (.ol ([p.1, p.2].map fun _ => D.bl true), [W.w false (.sh (srcD p)), W.un]) := by
    rw [lcE_map (xs := [p.1, p.2]) (enc := D.int) (F := fun _ => D.bl true) (ρ1 := [W.w false (.sh (srcD p)), W.un]) rfl rfl]
    intro x hx
    simp only [List.mem_cons, List.not_mem_nil, or_false] at hx
    rcases hx with rfl | rfl
    · simp [wipeW, e1]
      exact ⟨_, ⟨_, ⟨rfl, rfl⟩, rfl⟩, rfl⟩
    · simp [wipeW, e2]
      exact ⟨_, ⟨_, ⟨rfl, rfl⟩, rfl⟩, rfl⟩
  have e4 := all_true [p.1, p.2]
  have e5 : (callB (sh1 allD) (consL (frE (lcE [1] (itE seqS' (vE 0)) (bN 1) yesB (frE (callP 3 m_is_between (consL (vE 1) (consL (op2 subI (cE (.int 0)) (cE (.int 99999))) (consL (cE (.int 99999)) nilL))))))) nilL)) [W.w false (.sh (srcD p)), W.un] = some (.sh (.bl true), [W.w false (.sh (srcD p)), W.un]) := by
    simp only [ev_callB, ev_cons, ev_fr, e3, Option.map_some, ev_nil, frz_ol, ev_sh1, e4]
  have e6 : lenD (srcD p) = some (.int 2) := rfl
  have e7 : isiD (srcD p) (.ty "tuple") = some (.bl true) := rfl
  have e8 : leI (.int p.1) (.int p.2) = some (.bl true) := by rw [ii_le, decide_eq_true h.2.1]
  have e9 := all_rep 2
  simp only [List.replicate] at e9
  simp [e6, e7, orB, eqI, andD, e3, e9, sub0, sub1, h.2.1]
theorem p_check_sources (l : List (Int × Int)) (h : Src l) : m_check_sources [.tup (l.map srcD)] = some (.sh .non) := by
  have s1 : small l.length = true := decide_eq_true (by have := h.le; omega)
  have e3 : lcE [1] (itE seqS' (vE 0)) (bN 1) yesB (frE (callP 1 m_is_source (consL (vE 1) nilL))) [W.w false (.sh (.tup (l.map srcD))), W.un] = some (.ol (l.map fun _ => D.bl true), [W.w false (.sh (.tup (l.map srcD))), W.un]) := by
    rw [lcE_map (xs := l) (enc := srcD) (F := fun _ => D.bl true) (ρ1 := [W.w false (.sh (.tup (l.map srcD))), W.un]) rfl s1]
    intro x hx
    have := p_is_source x (h.ok x hx)
    simp [wipeW, this]
    exact ⟨_, ⟨_, ⟨rfl, rfl⟩, rfl⟩, rfl⟩
  have e5 : (callB (sh1 allD) (consL (frE (lcE [1] (itE seqS' (vE 0)) (bN 1) yesB (frE (callP 1 m_is_source (consL (vE 1) nilL))))) nilL)) [W.w false (.sh (.tup (l.map srcD))), W.un] = some (.sh (.bl true), [W.w false (.sh (.tup (l.map srcD))), W.un]) := by
    simp only [ev_callB, ev_cons, ev_fr, e3, Option.map_some, ev_nil, frz_ol, ev_sh1, all_true l]
  have e6 : lenD (.tup (l.map srcD)) = some (.int (l.length : Nat)) := by unfold lenD; simp
  have e7 : isiD (.tup (l.map srcD)) (.ty "tuple") = some (.bl true) := rfl
  have n1 : 0 < l.length := List.length_pos_iff.mpr h.ne
  have n2 : (l.length : Int) ≤ 20 := by have := h.le; omega
  unfold m_check_sources fnP g_check_sources
  simp [e6, e7, orB, chF, e3, all_true l, n1, n2]
theorem p_check_wrong (l : List (Int × Int)) (h : Src l) (w : Int) (h0 : 0 ≤ w) (h1 : w < l.length) : m_check_wrong [.tup (l.map srcD), .int w] = some (.sh .non) := by
  have e1 := p_check_sources l h
  have e2 := p_is_between w 0 ((l.length : Int) - 1)
  rw [decide_eq_true (by omega)] at e2
  have e6 : lenD (.tup (l.map srcD)) = some (.int (l.length : Nat)) := by unfold lenD; simp
  unfold m_check_wrong fnP g_check_wrong
  simp [e1, e2, e6]
theorem p_truth_spans (l : List (Int × Int)) (h : Src l) {m : Int} (hm : mostL l = some m) (w : Int) (h0 : 0 ≤ w) (h1 : w < l.length) : m_truth_spans [.tup (l.map srcD), .int w] = some (.sh (couldD l m w)) := by
  have e1 := p_check_wrong l h w h0 h1
  have e2 := p_told_could l (by have := h.le; omega) hm w
  unfold m_truth_spans fnP g_truth_spans
  simp [e1, e2]
theorem p_agreed (l : List (Int × Int)) (h : Src l) (n : Int) (h0 : 1 ≤ n) (h1 : n ≤ l.length) : m_agreed [.tup (l.map srcD), .int n] = some (.sh (.tup ((agrL l n).map srcD))) := by
  have e1 := p_check_sources l h
  have e2 := p_is_between n 1 (l.length : Int)
  rw [decide_eq_true (by omega)] at e2
  have e3 := p_told_agreed l (by have := h.le; omega) n
  have e6 : lenD (.tup (l.map srcD)) = some (.int (l.length : Nat)) := by unfold lenD; simp
  unfold m_agreed fnP g_agreed
  simp [e1, e2, e3, e6]
theorem p_best_agreed (l : List (Int × Int)) (h : Src l) {m : Int} (hm : mostL l = some m) : m_best_agreed [.tup (l.map srcD)] = some (.sh (.tup [.int m, .tup ((agrL l m).map srcD)])) := by
  have e1 := p_check_sources l h
  have e2 := p_most_agreed l (by have := h.le; omega)
  rw [hm] at e2
  have e3 := p_told_agreed l (by have := h.le; omega) m
  unfold m_best_agreed fnP g_best_agreed
  simp [e1, e2, e3, nb]
  rfl
theorem p_have (l : List (Int × Int)) (h : Src l) (t : Int) (h0 : -199998 ≤ t) (h1 : t ≤ 199998) : m_have [.tup (l.map srcD), .int t] = some (.sh (.tup (natsD (havL l t)))) := by
  have e1 := p_check_sources l h
  have e2 := p_is_between t (-199998) 199998
  rw [decide_eq_true (by omega)] at e2
  have e3 := p_having l (decide_eq_true (by have := h.le; omega)) t
  unfold m_have fnP g_have
  simp [e1, e2, e3, tupleD]
theorem p_spans_if (l : List (Int × Int)) (h : Src l) {m : Int} (hm : mostL l = some m) (w : Int) (h0 : 0 ≤ w) (h1 : w < l.length) (hw : (l.length : Int) - m ≤ w) : m_spans_if [.tup (l.map srcD), .int w] = some (.sh (.tup ((agrL l ((l.length : Int) - w)).map srcD))) := by
  have e1 := p_check_wrong l h w h0 h1
  have e2 := p_told_could l (by have := h.le; omega) hm w
  unfold couldD at e2
  rw [if_neg (by omega)] at e2
  have e3 : eqD false (.str "spans") (.str "more") = some (.bl false) := by
    rw [eqD_ok (by decide +kernel) (by decide +kernel), show eqvD (.str "spans") (.str "more") = false from by decide +kernel]
    rfl
  unfold m_spans_if fnP g_spans_if
  simp [e1, e2, e3, nb]
end Mi
/-! text S5 -/
set_option linter.all false
set_option maxRecDepth 100000
set_option maxHeartbeats 1000000
namespace Mi
open PySem L2 Dl
theorem subD_tup {l : List D} {i : Int} {d : D} (h : atI l i = some d) : subD (.tup l) (.int i) = some d := by
  simp [subD, orF, ixL, ixT, h]
theorem subD_lst {l : List D} {i : Int} {d : D} (h : atI l i = some d) : subD (.lst l) (.int i) = some d := by
  simp [subD, orF, ixL, h]
theorem atI_nat {l : List D} {i : Int} {n : Nat} {d : D} (e : i = n) (h : l[n]? = some d) : atI l i = some d := by
  subst e
  obtain ⟨h1, h2⟩ := List.getElem?_eq_some_iff.mp h
  unfold atI ixN
  rw [if_pos (by omega), if_pos (by omega)]
  simpa using h
theorem tupLast (s : List (Int × Int)) {b : Int × Int} (h : s.getLast? = some b) : subD (.tup (s.map srcD)) (.int (-1)) = some (srcD b) := by
  obtain ⟨g, hg⟩ := List.getLast?_eq_some_iff.mp h
  subst hg
  refine subD_tup ?_
  rw [List.map_append]
  exact Dl.atI_last _ _
theorem tupHead (s : List (Int × Int)) {a : Int × Int} (h : s.head? = some a) : subD (.tup (s.map srcD)) (.int 0) = some (srcD a) := by
  cases s with
  | nil => cases h
  | cons x r =>
    cases h
    exact subD_tup (atI_nat (n := 0) rfl rfl)
theorem p_hull (l : List (Int × Int)) (h : Src l) {m : Int} (hm : mostL l = some m) (w : Int) (h0 : 0 ≤ w) (h1 : w < l.length) (hw : (l.length : Int) - m ≤ w) {a b : Int × Int}
    (ha : (agrL l ((l.length : Int) - w)).head? = some a) (hb : (agrL l ((l.length : Int) - w)).getLast? = some b) : m_hull [.tup (l.map srcD), .int w] = some (.sh (srcD (a.1, b.2))) := by
  have e1 := p_spans_if l h hm w h0 h1 hw
  have e2 := tupHead _ ha
  have e3 := tupLast _ hb
  unfold m_hull fnP g_hull
  simp [e1, e2, e3, nb, sub0, sub1, negI]
  rfl
theorem p_trimmed (l : List (Int × Int)) (h : Src l) (a b : Int) (ha : (sortI (l.map (·.1)))[l.length - 1]? = some a) (hb : (sortI (l.map (·.2)))[0]? = some b) : m_trimmed [.tup (l.map srcD), .int 0] = some (.sh (srcD (a, b))) := by
  have hn : 0 < l.length := List.length_pos_iff.mpr h.ne
  have e1 := p_check_wrong l h 0 (by omega) (by omega)
  have s1 : small l.length = true := decide_eq_true (by have := h.le; omega)
  have e2 : lcE [4, 5] (itE seqS' (vE 0)) (bT 2 (bCons (bN 4) (bCons (bN 5) bNil))) yesB (vE 4) [W.w false (.sh (.tup (l.map srcD))), W.w false (.sh (.int 0)), W.un, W.un, W.un, W.un] = some (.ol ((l.map (·.1)).map D.int), [W.w false (.sh (.tup (l.map srcD))), W.w false (.sh (.int 0)), W.un, W.un, W.un, W.un]) := by
    rw [lcE_map (xs := l) (enc := srcD) (F := fun p => .int p.1) (ρ1 := [W.w false (.sh (.tup (l.map srcD))), W.w false (.sh (.int 0)), W.un, W.un, W.un, W.un]) rfl s1 fun x _ => by simp [wipeW, srcD]]
    simp
  have e3 : lcE [4, 5] (itE seqS' (vE 0)) (bT 2 (bCons (bN 4) (bCons (bN 5) bNil))) yesB (vE 5) [W.w false (.sh (.tup (l.map srcD))), W.w false (.sh (.int 0)), W.un, W.un, W.un, W.un] = some (.ol ((l.map (·.2)).map D.int), [W.w false (.sh (.tup (l.map srcD))), W.w false (.sh (.int 0)), W.un, W.un, W.un, W.un]) := by
    rw [lcE_map (xs := l) (enc := srcD) (F := fun p => .int p.2) (ρ1 := [W.w false (.sh (.tup (l.map srcD))), W.w false (.sh (.int 0)), W.un, W.un, W.un, W.un]) rfl s1 fun x _ => by simp [wipeW, srcD]]
    simp
  have e4 : sortedIO [.lst ((l.map (·.1)).map D.int)] = some (.ol ((sortI (l.map (·.1))).map D.int)) := by
    show (intsD _).map _ = _
    rw [ints_of]; rfl
  have e5 : sortedIO [.lst ((l.map (·.2)).map D.int)] = some (.ol ((sortI (l.map (·.2))).map D.int)) := by
    show (intsD _).map _ = _
    rw [ints_of]; rfl
  have n1 : (sortI (l.map (·.1))).length = l.length := by unfold sortI; simp
  have e6 : lenD (.lst ((sortI (l.map (·.1))).map D.int)) = some (.int (l.length : Nat)) := by
    show some (D.int ((List.map D.int (sortI (l.map (·.1)))).length : Nat)) = _
    rw [List.length_map, n1]
  have e7 : subD (.lst ((sortI (l.map (·.1))).map D.int)) (.int ((l.length : Int) - 1)) = some (.int a) := subD_lst (atI_nat (n := l.length - 1) (by omega) (by rw [List.getElem?_map, ha]; rfl))
  have e8 : subD (.lst ((sortI (l.map (·.2))).map D.int)) (.int 0) = some (.int b) := subD_lst (atI_nat (n := 0) rfl (by rw [List.getElem?_map, hb]; rfl))
  unfold m_trimmed fnP g_trimmed
  simp only [List.map_map] at e2 e3 e4 e5
  simp [e1, e2, e3, e4, e5, e6, e7, e8, nb]
  rfl
end Mi
/-! text S6 -/
set_option linter.all false
set_option maxRecDepth 100000
set_option maxHeartbeats 1000000
namespace Mi
open PySem L2 Dl
abbrev swS (l : List (Int × Int)) (w : Int) (q : Int × Int) (s : W × W × W) : List W := [W.w false (.sh (.tup (l.map srcD))), W.w false (.sh (.int w)), W.w false (.sh (.tup [srcD q])), W.w false (.ol []), s.1, s.2.1, s.2.2, W.un, W.un]
theorem any_one : anyD (.lst [D.bl true]) = some (.bl true) := rfl
theorem sw_body (l : List (Int × Int)) (w : Int) (q : Int × Int) (i : Nat) (p : Int × Int) (h1 : q.1 ≤ p.2) (h2 : p.1 ≤ q.2) :
    ifS (notB (bE (frE (callB (sh1 anyD) (consL (frE (lcE [7, 8] (itE seqS' (vE 2)) (bT 2 (bCons (bN 7) (bCons (bN 8) bNil))) yesB (andD (op2 leI (vE 7) (vE 6)) (op2 leI (vE 5) (vE 8))))) nilL)))))
      (appS (.sl 3) (vE 4)) skipS (swS l w q (W.w false (.sh (.int (i : Nat))), W.w false (.sh (.int p.1)), W.w false (.sh (.int p.2)))) = some (.nx (swS l w q (W.w false (.sh (.int (i : Nat))), W.w false (.sh (.int p.1)), W.w false (.sh (.int p.2))))) := by
  have e1 : lcE [7, 8] (itE seqS' (vE 2)) (bT 2 (bCons (bN 7) (bCons (bN 8) bNil))) yesB (andD (op2 leI (vE 7) (vE 6)) (op2 leI (vE 5) (vE 8))) (swS l w q (W.w false (.sh (.int (i : Nat))), W.w false (.sh (.int p.1)), W.w false (.sh (.int p.2)))) =
      some (.ol ([q].map fun _ => D.bl true), swS l w q (W.w false (.sh (.int (i : Nat))), W.w false (.sh (.int p.1)), W.w false (.sh (.int p.2)))) := by
    rw [lcE_map (xs := [q]) (enc := srcD) (F := fun _ => D.bl true) (ρ1 := swS l w q (W.w false (.sh (.int (i : Nat))), W.w false (.sh (.int p.1)), W.w false (.sh (.int p.2)))) rfl rfl]
    intro x hx
    simp only [List.mem_singleton] at hx
    subst hx
    simp [wipeW, srcD, andD, h1, h2]
  simp only [ev_if, ev_notB, ev_bE, ev_fr, ev_callB, ev_cons, e1, Option.map_some, ev_nil, frz_ol, ev_sh1, List.map_cons, List.map_nil, any_one, frz_sh, Bool.not_true, ev_skip]
theorem p_surely_wrong (l : List (Int × Int)) (h : Src l) {m : Int} (hm : mostL l = some m) (w : Int) (h0 : 0 ≤ w) (h1 : w < l.length) (hw : (l.length : Int) - m ≤ w) {q : Int × Int}
    (hq : agrL l ((l.length : Int) - w) = [q]) (hall : ∀ p ∈ l, q.1 ≤ p.2 ∧ p.1 ≤ q.2) : m_surely_wrong [.tup (l.map srcD), .int w] = some (.sh (.tup [])) := by
  have e1 := p_spans_if l h hm w h0 h1 hw
  rw [hq] at e1
  have key := forR_fold (enc := fun x : (Int × Int) × Nat => .tup [.int (x.2 : Nat), srcD x.1]) (st := swS l w q) (b := bT 2 (bCons (bN 4) (bCons (bT 2 (bCons (bN 5) (bCons (bN 6) bNil))) bNil)))
    (body := ifS (notB (bE (frE (callB (sh1 anyD) (consL (frE (lcE [7, 8] (itE seqS' (vE 2)) (bT 2 (bCons (bN 7) (bCons (bN 8) bNil))) yesB (andD (op2 leI (vE 7) (vE 6)) (op2 leI (vE 5) (vE 8))))) nilL)))))
      (appS (.sl 3) (vE 4)) skipS)
    (f := fun _ x => (W.w false (.sh (.int (x.2 : Nat))), W.w false (.sh (.int x.1.1)), W.w false (.sh (.int x.1.2)))) (xs := l.zipIdx) (s := (W.un, W.un, W.un)) (fun s x hx => by
      have hx1 : x.1 ∈ l := by
        obtain ⟨i, hi⟩ := x
        exact List.fst_mem_of_mem_zipIdx hx
      obtain ⟨a1, a2⟩ := hall x.1 hx1
      exact ⟨_, rfl, sw_body l w q x.2 x.1 a1 a2⟩)
  have k2 : forS (itL enumD (consL (vE 0) nilL)) (bT 2 (bCons (bN 4) (bCons (bT 2 (bCons (bN 5) (bCons (bN 6) bNil))) bNil)))
      (ifS (notB (bE (frE (callB (sh1 anyD) (consL (frE (lcE [7, 8] (itE seqS' (vE 2)) (bT 2 (bCons (bN 7) (bCons (bN 8) bNil))) yesB (andD (op2 leI (vE 7) (vE 6)) (op2 leI (vE 5) (vE 8))))) nilL)))))
      (appS (.sl 3) (vE 4)) skipS) (swS l w q (W.un, W.un, W.un)) = some (.nx (swS l w q (l.zipIdx.foldl (fun _ x => (W.w false (.sh (.int (x.2 : Nat))), W.w false (.sh (.int x.1.1)), W.w false (.sh (.int x.1.2)))) (W.un, W.un, W.un)))) := by
    rw [← key]
    show forR _ _ (pairsD 0 (l.map srcD)) _ = _
    rw [pairs_zip]
  unfold m_surely_wrong fnP g_surely_wrong
  have e2 : parO 2 3 (consO (shE (frE (callP 2 m_spans_if (consL (vE 0) (consL (vE 1) nilL))))) (consO (lstE nilL) nilO)) [W.w false (.sh (.tup (l.map srcD))), W.w false (.sh (.int w)), W.un, W.un, W.un, W.un, W.un, W.un, W.un] = some (.nx (swS l w q (W.un, W.un, W.un))) := by
    simp [e1, nb, small]
  show (match (match parO 2 3 _ [W.w false (.sh (.tup (l.map srcD))), W.w false (.sh (.int w)), W.un, W.un, W.un, W.un, W.un, W.un, W.un] with | some (.nx ρ1) => (match forS _ _ _ ρ1 with | some (.nx ρ2) => retS (callB (sh1 tupleD) (consL (vF 3) nilL)) ρ2 | r => r) | r => r) with | some (.rt o ρ) => some o | some (.nx ρ) => some (O.sh D.non) | x => none) = _
  rw [e2]
  dsimp only
  rw [k2]
  rfl
end Mi
/-! text S7 -/
set_option linter.all false
set_option maxRecDepth 100000
set_option maxHeartbeats 1000000
namespace Mi
open PySem L2 Dl
theorem foldl_max : ∀ (r : List Int) (i : Int), i ≤ r.foldl max i ∧ (∀ x ∈ r, x ≤ r.foldl max i) ∧ (r.foldl max i = i ∨ r.foldl max i ∈ r)
  | [], i => ⟨Int.le_refl _, (fun _ h => nomatch h), .inl rfl⟩
  | x :: r, i => by
    obtain ⟨h1, h2, h3⟩ := foldl_max r (max i x)
    rw [List.foldl_cons]
    refine ⟨by omega, fun y hy => ?_, ?_⟩
    · rcases List.mem_cons.mp hy with e | e
      · subst e; omega
      · exact h2 y e
    · rcases h3 with h3 | h3
      · by_cases c : i ≤ x
        · exact .inr (by rw [h3, show max i x = x from by omega]; exact List.mem_cons_self)
        · exact .inl (by rw [h3]; omega)
      · exact .inr (List.mem_cons_of_mem _ h3)
theorem maxL_some {l : List Int} {m : Int} (h : maxL l = some m) : m ∈ l ∧ ∀ x ∈ l, x ≤ m := by
  cases l with
  | nil => cases h
  | cons i r =>
    cases h
    obtain ⟨h1, h2, h3⟩ := foldl_max r i
    refine ⟨?_, fun x hx => ?_⟩
    · rcases h3 with h3 | h3
      · rw [h3]; exact List.mem_cons_self
      · exact List.mem_cons_of_mem _ h3
    · rcases List.mem_cons.mp hx with e | e
      · rw [e]; exact h1
      · exact h2 x e
theorem maxL_ne {l : List Int} (h : l ≠ []) : ∃ m, maxL l = some m := by
  cases l with
  | nil => exact absurd rfl h
  | cons i r => exact ⟨_, rfl⟩
theorem maxL_is {l : List Int} {m : Int} (h1 : m ∈ l) (h2 : ∀ x ∈ l, x ≤ m) : maxL l = some m := by
  obtain ⟨k, hk⟩ := maxL_ne (l := l) (fun e => by rw [e] at h1; cases h1)
  obtain ⟨a, b⟩ := maxL_some hk
  have := h2 k a
  have := b m h1
  rw [hk, show k = m from by omega]
/-- L the greatest low, H the least high -/
structure Ends (l : List (Int × Int)) (L H : Int) : Prop where
  l1 : ∀ p ∈ l, p.1 ≤ L
  l2 : ∃ p ∈ l, p.1 = L
  h1 : ∀ p ∈ l, H ≤ p.2
  h2 : ∃ p ∈ l, p.2 = H
theorem filterMap_full {X Y : Type} (f : X → Option Y) : ∀ l : List X, ((l.filterMap f).length = l.length ↔ ∀ x ∈ l, (f x).isSome = true)
  | [] => by simp
  | x :: r => by
    have ih := filterMap_full f r
    have le := List.length_filterMap_le f r
    rw [List.filterMap_cons]
    cases e : f x with
    | none =>
      simp only [List.length_cons, List.mem_cons]
      constructor
      · intro h; omega
      · intro h
        have := h x (.inl rfl)
        rw [e] at this
        cases this
    | some y =>
      simp only [List.length_cons, List.mem_cons]
      constructor
      · intro h z hz
        rcases hz with rfl | hz
        · rw [e]; rfl
        · exact ih.mp (by omega) z hz
      · intro h
        have := ih.mpr fun z hz => h z (.inr hz)
        omega
theorem hav_full {l : List (Int × Int)} {t : Int} : (havL l t).length = l.length ↔ ∀ p ∈ l, p.1 ≤ t ∧ t ≤ p.2 := by
  have h := filterMap_full (fun p : (Int × Int) × Nat => if p.1.1 ≤ t ∧ t ≤ p.1.2 then some p.2 else none) l.zipIdx
  rw [List.length_zipIdx] at h
  unfold havL
  rw [h]
  constructor
  · intro q p hp
    obtain ⟨i, hi⟩ := List.getElem?_of_mem hp
    have := q (p, i) (List.mem_zipIdx_iff_getElem?.mpr (by simpa using hi))
    by_cases c : p.1 ≤ t ∧ t ≤ p.2
    · exact c
    · simp only [if_neg c] at this
      cases this
  · intro q x hx
    have := q x.1 (List.fst_mem_of_mem_zipIdx hx)
    simp only [if_pos this]
    rfl
theorem edg_mem {l : List (Int × Int)} {e : Int} : e ∈ edgL l ↔ (∃ p ∈ l, p.1 = e) ∨ ∃ p ∈ l, p.2 + 1 = e := by
  unfold edgL
  rw [sortU_mem, List.mem_append, List.mem_map, List.mem_map]
theorem edg_asc (l : List (Int × Int)) : (edgL l).Pairwise (· < ·) := sortU_asc _
theorem zip_mem {E : List Int} {x : Int × Int} (h : x ∈ E.zip E.tail) : x.1 ∈ E := by
  obtain ⟨a, b⟩ := x
  exact (List.of_mem_zip h).1
theorem most_no {l : List (Int × Int)} {L H : Int} (h : Src l) (e : Ends l L H) (hn : H < L) : ∃ m, mostL l = some m ∧ m < l.length := by
  obtain ⟨p, hp⟩ := List.exists_mem_of_ne_nil l h.ne
  have hne : pieL l ≠ [] := by
    have a1 : p.1 ∈ edgL l := edg_mem.mpr (.inl ⟨p, hp, rfl⟩)
    have a2 : p.2 + 1 ∈ edgL l := edg_mem.mpr (.inr ⟨p, hp, rfl⟩)
    have ne : p.1 ≠ p.2 + 1 := by have := (h.ok p hp).2.1; omega
    unfold pieL
    intro z
    have z := List.map_eq_nil_iff.mp z
    revert a1 a2 z
    cases edgL l with
    | nil => intro a1; cases a1
    | cons x r =>
      cases r with
      | nil =>
        intro a1 a2 _
        simp only [List.mem_singleton] at a1 a2
        exact ne (by rw [a1, a2])
      | cons y r => intro _ _ z; cases z
  obtain ⟨m, hm⟩ := maxL_ne (l := (pieL l).map fun p => (p.2.2.length : Int)) (fun z => hne (List.map_eq_nil_iff.mp z))
  refine ⟨m, hm, ?_⟩
  obtain ⟨a, _⟩ := maxL_some hm
  obtain ⟨q, hq, rfl⟩ := List.mem_map.mp a
  unfold pieL at hq
  obtain ⟨x, _, rfl⟩ := List.mem_map.mp hq
  have le := hav_len l x.1
  have nf : ¬ (havL l x.1).length = l.length := fun z => by
    have z := hav_full.mp z
    obtain ⟨p1, q1, r1⟩ := e.l2
    obtain ⟨p2, q2, r2⟩ := e.h2
    have := (z p1 q1).1
    have := (z p2 q2).2
    omega
  show ((havL l x.1).length : Int) < l.length
  omega
theorem zip_one {Y : Type} {P : Int → Bool} {f : Int × Int → Y} {L b : Int} : ∀ {A C : List Int}, (∀ a ∈ A, P a = false) → P L = true → P b = false → (∀ c ∈ C, P c = false) →
    (((A ++ L :: b :: C).zip (A ++ L :: b :: C).tail).filterMap fun p => if P p.1 = true then some (f p) else none) = [f (L, b)] := by
  have tail : ∀ (C : List Int) (b : Int), P b = false → (∀ c ∈ C, P c = false) → (((b :: C).zip (b :: C).tail).filterMap fun p => if P p.1 = true then some (f p) else none) = [] := by
    intro C
    induction C with
    | nil => intro b _ _; rfl
    | cons c C ih =>
      intro b hb hc
      show (((b, c) :: ((c :: C).zip C)).filterMap _) = []
      rw [List.filterMap_cons]
      simp only [hb, Bool.false_eq_true, if_false]
      exact ih c (hc c List.mem_cons_self) fun x hx => hc x (List.mem_cons_of_mem _ hx)
  intro A
  induction A with
  | nil =>
    intro C _ hL hb hc
    show (((L, b) :: ((b :: C).zip C)).filterMap _) = _
    rw [List.filterMap_cons]
    simp only [hL, if_true]
    rw [show ((b :: C).zip C).filterMap (fun p => if P p.1 = true then some (f p) else none) = [] from tail C b hb hc]
  | cons a A ih =>
    intro C ha hL hb hc
    have h2 := ih (fun x hx => ha x (List.mem_cons_of_mem _ hx)) hL hb hc
    have h1 := ha a List.mem_cons_self
    cases A with
    | nil =>
      show (((a, L) :: ((L :: b :: C).zip (b :: C))).filterMap _) = _
      rw [List.filterMap_cons]
      simp only [h1, Bool.false_eq_true, if_false]
      exact h2
    | cons a2 A =>
      show (((a, a2) :: ((a2 :: A ++ L :: b :: C).zip (A ++ L :: b :: C))).filterMap _) = _
      rw [List.filterMap_cons]
      simp only [h1, Bool.false_eq_true, if_false]
      exact h2
end Mi
/-! text S8 -/
set_option linter.all false
set_option maxRecDepth 100000
set_option maxHeartbeats 1000000
namespace Mi
open PySem L2 Dl
theorem edg_split {l : List (Int × Int)} {L H : Int} (e : Ends l L H) (hn : L ≤ H) : ∃ A C, edgL l = A ++ L :: (H + 1) :: C := by
  have a1 : L ∈ edgL l := edg_mem.mpr (.inl e.l2)
  have a2 : H + 1 ∈ edgL l := by
    obtain ⟨p, hp, rfl⟩ := e.h2
    exact edg_mem.mpr (.inr ⟨p, hp, rfl⟩)
  obtain ⟨A, D, hD⟩ := List.append_of_mem a1
  have asc := edg_asc l
  rw [hD] at asc a2
  obtain ⟨_, asc2, asc3⟩ := List.pairwise_append.mp asc
  obtain ⟨q1, q2⟩ := List.pairwise_cons.mp asc2
  have inD : H + 1 ∈ D := by
    rcases List.mem_append.mp a2 with z | z
    · have := asc3 _ z L List.mem_cons_self
      omega
    · rcases List.mem_cons.mp z with z | z
      · omega
      · exact z
  cases D with
  | nil => cases inD
  | cons b C =>
    obtain ⟨r1, _⟩ := List.pairwise_cons.mp q2
    have hb : b = H + 1 := by
      have gt := q1 b List.mem_cons_self
      have mem : b ∈ edgL l := by rw [hD]; simp
      rcases edg_mem.mp mem with ⟨p, hp, e1⟩ | ⟨p, hp, e1⟩
      · have := e.l1 p hp; omega
      · have := e.h1 p hp
        rcases List.mem_cons.mp inD with z | z
        · omega
        · have := r1 _ z; omega
    subst hb
    exact ⟨A, C, hD⟩
theorem hav_iff {l : List (Int × Int)} {L H : Int} (e : Ends l L H) (t : Int) : (havL l t).length = l.length ↔ L ≤ t ∧ t ≤ H := by
  rw [hav_full]
  constructor
  · intro q
    obtain ⟨p1, q1, r1⟩ := e.l2
    obtain ⟨p2, q2, r2⟩ := e.h2
    have := (q p1 q1).1
    have := (q p2 q2).2
    omega
  · intro q p hp
    have := e.l1 p hp
    have := e.h1 p hp
    omega
theorem most_yes {l : List (Int × Int)} {L H : Int} (e : Ends l L H) (hn : L ≤ H) : mostL l = some (l.length : Int) := by
  obtain ⟨A, C, hE⟩ := edg_split e hn
  refine maxL_is (List.mem_map.mpr ⟨(L, H + 1 - 1, havL l L), ?_, ?_⟩) fun x hx => ?_
  · unfold pieL
    rw [hE]
    refine List.mem_map.mpr ⟨(L, H + 1), ?_, rfl⟩
    clear hE
    induction A with
    | nil => exact List.mem_cons_self
    | cons a A ih =>
      cases A with
      | nil => exact List.mem_cons_of_mem _ List.mem_cons_self
      | cons a2 A => exact List.mem_cons_of_mem _ ih
  · have := (hav_iff e L).mpr ⟨Int.le_refl _, hn⟩
    show ((havL l L).length : Int) = l.length
    rw [this]
  · obtain ⟨q, hq, rfl⟩ := List.mem_map.mp hx
    unfold pieL at hq
    obtain ⟨y, _, rfl⟩ := List.mem_map.mp hq
    have := hav_len l y.1
    show ((havL l y.1).length : Int) ≤ l.length
    omega
theorem agr_yes {l : List (Int × Int)} {L H : Int} (e : Ends l L H) (hn : L ≤ H) : agrL l (l.length : Int) = [(L, H)] := by
  obtain ⟨A, C, hE⟩ := edg_split e hn
  have asc := edg_asc l
  have mem : ∀ t, t ∈ edgL l → L ≤ t ∧ t ≤ H → t = L := fun t ht hb => by
    rcases edg_mem.mp ht with ⟨p, hp, e1⟩ | ⟨p, hp, e1⟩
    · have := e.l1 p hp; omega
    · have := e.h1 p hp; omega
  rw [hE] at asc
  obtain ⟨_, asc2, asc3⟩ := List.pairwise_append.mp asc
  obtain ⟨q1, q2⟩ := List.pairwise_cons.mp asc2
  have P : ∀ t, decide ((l.length : Int) ≤ ((havL l t).length : Int)) = decide (L ≤ t ∧ t ≤ H) := fun t => by
    have le := hav_len l t
    have iff := hav_iff e t
    by_cases c : L ≤ t ∧ t ≤ H
    · rw [decide_eq_true c, decide_eq_true (by have := iff.mpr c; omega)]
    · rw [decide_eq_false c, decide_eq_false (by have := mt iff.mp c; omega)]
  have z := zip_one (P := fun t => decide ((l.length : Int) ≤ ((havL l t).length : Int))) (f := fun p : Int × Int => (p.1, p.2 - 1)) (L := L) (b := H + 1) (A := A) (C := C)
    (fun a ha => by
      rw [P, decide_eq_false]
      have := asc3 a ha L List.mem_cons_self
      omega) (by rw [P, decide_eq_true ⟨Int.le_refl _, hn⟩]) (by rw [P, decide_eq_false]; omega) (fun c hc => by
      rw [P, decide_eq_false]
      have := (List.pairwise_cons.mp q2).1 c hc
      omega)
  rw [← hE] at z
  unfold agrL pieL
  rw [List.filterMap_map]
  have z2 : ((edgL l).zip (edgL l).tail).filterMap ((fun p : Int × Int × List Nat => if (l.length : Int) ≤ (p.2.2.length : Int) then some (p.1, p.2.1) else none) ∘ fun p => (p.1, p.2 - 1, havL l p.1)) = [(L, H + 1 - 1)] := by
    rw [← z]
    congr 1
    funext p
    simp
  rw [z2]
  show [(L, H + 1 - 1)] = [(L, H)]
  rw [show H + 1 - 1 = H from by omega]
theorem sort_last {l : List (Int × Int)} {L H : Int} (h : l ≠ []) (e : Ends l L H) : (sortI (l.map (·.1)))[l.length - 1]? = some L := by
  have pm : (sortI (l.map (·.1))).Perm (l.map (·.1)) := List.mergeSort_perm _ _
  have pw : (sortI (l.map (·.1))).Pairwise (· ≤ ·) := by
    have := List.pairwise_mergeSort (le := fun a b : Int => decide (a ≤ b)) (fun a b c h1 h2 => by simp at h1 h2 ⊢; omega) (fun a b => by simp; omega) (l.map (·.1))
    exact this.imp fun h => of_decide_eq_true h
  have len : (sortI (l.map (·.1))).length = l.length := by rw [pm.length_eq, List.length_map]
  have hn : 0 < l.length := List.length_pos_iff.mpr h
  have lt : l.length - 1 < (sortI (l.map (·.1))).length := by omega
  rw [List.getElem?_eq_getElem lt]
  congr 1
  have m1 : (sortI (l.map (·.1)))[l.length - 1] ∈ l.map (·.1) := pm.mem_iff.mp (List.getElem_mem lt)
  obtain ⟨p, hp, ep⟩ := List.mem_map.mp m1
  have a1 := e.l1 p hp
  obtain ⟨p2, hp2, ep2⟩ := e.l2
  have m2 : L ∈ sortI (l.map (·.1)) := pm.mem_iff.mpr (List.mem_map.mpr ⟨p2, hp2, ep2⟩)
  obtain ⟨i, hi, ei⟩ := List.getElem_of_mem m2
  have a2 : (sortI (l.map (·.1)))[i] ≤ (sortI (l.map (·.1)))[l.length - 1] := by
    by_cases c : i = l.length - 1
    · subst c; exact Int.le_refl _
    · exact List.pairwise_iff_getElem.mp pw i (l.length - 1) hi lt (by omega)
  omega
theorem sort_first {l : List (Int × Int)} {L H : Int} (h : l ≠ []) (e : Ends l L H) : (sortI (l.map (·.2)))[0]? = some H := by
  have pm : (sortI (l.map (·.2))).Perm (l.map (·.2)) := List.mergeSort_perm _ _
  have pw : (sortI (l.map (·.2))).Pairwise (· ≤ ·) := by
    have := List.pairwise_mergeSort (le := fun a b : Int => decide (a ≤ b)) (fun a b c h1 h2 => by simp at h1 h2 ⊢; omega) (fun a b => by simp; omega) (l.map (·.2))
    exact this.imp fun h => of_decide_eq_true h
  have len : (sortI (l.map (·.2))).length = l.length := by rw [pm.length_eq, List.length_map]
  have hn : 0 < l.length := List.length_pos_iff.mpr h
  have lt : 0 < (sortI (l.map (·.2))).length := by omega
  rw [List.getElem?_eq_getElem lt]
  congr 1
  have m1 : (sortI (l.map (·.2)))[0] ∈ l.map (·.2) := pm.mem_iff.mp (List.getElem_mem lt)
  obtain ⟨p, hp, ep⟩ := List.mem_map.mp m1
  have a1 := e.h1 p hp
  obtain ⟨p2, hp2, ep2⟩ := e.h2
  have m2 : H ∈ sortI (l.map (·.2)) := pm.mem_iff.mpr (List.mem_map.mpr ⟨p2, hp2, ep2⟩)
  obtain ⟨i, hi, ei⟩ := List.getElem_of_mem m2
  have a2 : (sortI (l.map (·.2)))[0] ≤ (sortI (l.map (·.2)))[i] := by
    by_cases c : 0 = i
    · subst c; exact Int.le_refl _
    · exact List.pairwise_iff_getElem.mp pw 0 i lt hi (by omega)
  omega
end Mi
/-! text S9 -/
set_option linter.all false
set_option maxRecDepth 100000
set_option maxHeartbeats 1000000
namespace Mi
open PySem L2 Dl TL
/-- the signs of an int's text -/
def intL (i : Int) : List Nat := if i < 0 then 45 :: numL i.natAbs else numL i.natAbs
theorem tl_len (x : Str) : (tl x).length = x.length := by
  exact Array.length_toList
theorem tl_int (i : Int) : tl (Str.ofString (toString i)) = intL i := by
  by_cases h : i < 0
  · obtain ⟨n, rfl⟩ : ∃ n : Nat, i = Int.negSucc n := ⟨(-i - 1).toNat, by omega⟩
    unfold intL
    rw [if_pos h]
    have e : toString (Int.negSucc n) = "-" ++ toString ((n + 1 : Nat) : Int) := rfl
    rw [e]
    have a : tl (Str.ofString (toString ((n + 1 : Nat) : Int))) = numL (n + 1) := tl_num (n + 1)
    show (Str.ofString ("-" ++ toString ((n + 1 : Nat) : Int))).cps.toList = 45 :: numL (n + 1)
    rw [← a]
    simp [Str.ofString]
    rfl
  · obtain ⟨n, rfl⟩ : ∃ n : Nat, i = (n : Int) := ⟨i.toNat, by omega⟩
    unfold intL
    rw [if_neg h, tl_num]
    rfl
theorem len_int {i : Int} (h : i.natAbs < 10 ^ 6) : (Str.ofString (toString i)).length ≤ 7 := by
  rw [← tl_len, tl_int]
  have := numL_len (n := i.natAbs) (k := 6) (by decide) h
  unfold intL
  split
  · rw [List.length_cons]; omega
  · omega
theorem strD_int {i : Int} (h : i.natAbs < 10 ^ 6) : strD (.int i) = some (.str (Str.ofString (toString i))) := by
  show (if i.natAbs < 2 ^ 1000 then some (D.str (Str.ofString (toString i))) else none) = _
  rw [if_pos (Nat.lt_of_lt_of_le h (Nat.le_trans (show 10 ^ 6 ≤ 2 ^ 20 by decide) (Nat.pow_le_pow_right (by decide) (by decide))))]
theorem add_str {a b : Str} (h : a.length + b.length ≤ 100000) : addD (.str a) (.str b) = some (.str (a ++ b)) := by
  unfold addD
  simp [small, h]
theorem tl_app (a b : Str) : tl (a ++ b) = tl a ++ tl b := by
  show (a.cps ++ b.cps).toList = _
  simp
theorem len_app (a b : Str) : (a ++ b).length = a.length + b.length := by
  rw [← tl_len, tl_app, List.length_append, tl_len, tl_len]
abbrev I (i : Int) : Str := Str.ofString (toString i)
theorem strs_of (l : List Str) : strsD (l.map D.str) = some l := by
  induction l with
  | nil => rfl
  | cons x r ih => simp [strsD, ih]
theorem sum_le {n : Nat} : ∀ {l : List Str}, (∀ x ∈ l, x.length ≤ n) → (l.map (·.length)).sum ≤ n * l.length
  | [], _ => by simp
  | x :: r, h => by
    have h1 := h x List.mem_cons_self
    have h2 := sum_le (n := n) (l := r) fun y hy => h y (List.mem_cons_of_mem _ hy)
    simp only [List.map_cons, List.sum_cons, List.length_cons, Nat.mul_add, Nat.mul_one]
    omega
def yesO : Option O → Bool
  | some (.sh (.bl true)) => true
  | _ => false
theorem yes_is {o : Option O} (h : yesO o = true) : o = some (.sh (.bl true)) := by
  unfold yesO at h
  split at h
  · rfl
  · cases h
def intO (i : Int) : Option O → Bool
  | some (.sh (.int j)) => i == j
  | _ => false
theorem int_is {i : Int} {o : Option O} (h : intO i o = true) : o = some (.sh (.int i)) := by
  unfold intO at h
  split at h
  · rw [eq_of_beq h]
  · cases h
theorem int_free {i : Int} {s : Nat} (h : s < 45) : s ∉ tl (I i) := by
  rw [tl_int]
  have := numL_free (n := i.natAbs) (s := s) (.inl (by omega))
  unfold intL
  split
  · intro z
    rcases List.mem_cons.mp z with z | z
    · omega
    · exact this z
  · exact this
theorem of_tl {a b : Str} (h : tl a = tl b) : a = b := by
  have := map_tl_inj (l := [a]) (m := [b]) (by simp only [List.map_cons, List.map_nil, h])
  exact (List.cons.inj this).1
theorem sp_tl : tl (" " : Str) = 32 :: [] := by decide +kernel
theorem words_back {parts : List Str} (hne : parts ≠ []) (hp : ∀ p ∈ parts, 32 ∉ tl p) {x : Str} (hx : tl x = joinL [32] (parts.map tl)) : Txt.split x " " = parts := by
  have e : x = Txt.join " " parts := of_tl (by rw [TL.join_eq, tl_join, sp_tl, hx])
  rw [e]
  exact TL.split_join sp_tl (by decide +kernel) hne hp
end Mi
/-! text K98L -/
set_option Elab.async false
set_option linter.all false
set_option maxRecDepth 100000
set_option maxHeartbeats 0
namespace Hk98
open PySem PySem.Spec L2 Dl Mi
def g__law_cells : DS :=
  (retS (lstRg (rg1 (frE (callB (sh2 max2D) (consL (cE (.int 1)) (consL (frE (callB (sh2 min2D) (consL (vE 1) (consL (frE (callB (sh1 lenD) (consL (vE 0) nilL))) nilL)))) nilL)))))))
def m__law_cells : List D → Option O := fnP 2 2 g__law_cells
abbrev h__law_cells_1 : DS := (retS (lstRg (rg1 (frE (callB (sh2 max2D) (consL (cE (.int 1)) (consL (frE (callB (sh2 min2D) (consL (vE 1) (consL (frE (callB (sh1 lenD) (consL (vE 0) nilL))) nilL)))) nilL)))))))
def g__law_text : DS :=
  (seqS (asgS 1 (lcE [2, 3, 4, 5] (itL enumD (consL (vE 0) nilL)) (bT 2 (bCons (bN 2) (bCons (bT 3 (bCons (bN 3) (bCons (bN 4) (bCons (bN 5) bNil)))) bNil))) yesB (op2 addD (op2 addD (op2 addD (op2 addD (op2 addD (cE (.str "town t")) (frE (callB (sh1 strD) (consL (vE 2) nilL)))) (cE (.str " "))) (frE (callB (sh1 strD) (consL (vE 3) nilL)))) (cE (.str " "))) (frE (callB (sh1 strD) (consL (vE 4) nilL))))))
  (seqS (extS (.sl 1) (frE (lcE [2, 6] (itL enumD (consL (vE 0) nilL)) (bT 2 (bCons (bN 2) (bCons (bN 6) bNil))) yesB (op2 addD (op2 addD (op2 addD (op2 addD (op2 addD (cE (.str "deed d")) (frE (callB (sh1 strD) (consL (vE 2) nilL)))) (cE (.str " t"))) (frE (callB (sh1 strD) (consL (vE 2) nilL)))) (cE (.str " "))) (frE (callB (sh1 strD) (consL (op2 subD (vE 6) (cE (.int 2))) nilL)))))))
  (seqS (forS (itL rng1D (consL (op2 subI (frE (callB (sh1 lenD) (consL (vE 0) nilL))) (cE (.int 1))) nilL)) (bN 2)
  (appS (.sl 1) (op2 addD (op2 addD (op2 addD (op2 addD (cE (.str "letter d")) (frE (callB (sh1 strD) (consL (vE 2) nilL)))) (cE (.str " d"))) (frE (callB (sh1 strD) (consL (op2 addD (vE 2) (cE (.int 1))) nilL)))) (cE (.str " 0 0")))))
  (retS (m1E joinD (cE (.str "\n")) (vF 1))))))
def m__law_text : List D → Option O := fnP 1 7 g__law_text
abbrev h__law_text_1 : DS := (asgS 1 (lcE [2, 3, 4, 5] (itL enumD (consL (vE 0) nilL)) (bT 2 (bCons (bN 2) (bCons (bT 3 (bCons (bN 3) (bCons (bN 4) (bCons (bN 5) bNil)))) bNil))) yesB (op2 addD (op2 addD (op2 addD (op2 addD (op2 addD (cE (.str "town t")) (frE (callB (sh1 strD) (consL (vE 2) nilL)))) (cE (.str " "))) (frE (callB (sh1 strD) (consL (vE 3) nilL)))) (cE (.str " "))) (frE (callB (sh1 strD) (consL (vE 4) nilL))))))
abbrev h__law_text_2 : DS := (extS (.sl 1) (frE (lcE [2, 6] (itL enumD (consL (vE 0) nilL)) (bT 2 (bCons (bN 2) (bCons (bN 6) bNil))) yesB (op2 addD (op2 addD (op2 addD (op2 addD (op2 addD (cE (.str "deed d")) (frE (callB (sh1 strD) (consL (vE 2) nilL)))) (cE (.str " t"))) (frE (callB (sh1 strD) (consL (vE 2) nilL)))) (cE (.str " "))) (frE (callB (sh1 strD) (consL (op2 subD (vE 6) (cE (.int 2))) nilL)))))))
abbrev h__law_text_3_1 : DS := (appS (.sl 1) (op2 addD (op2 addD (op2 addD (op2 addD (cE (.str "letter d")) (frE (callB (sh1 strD) (consL (vE 2) nilL)))) (cE (.str " d"))) (frE (callB (sh1 strD) (consL (op2 addD (vE 2) (cE (.int 1))) nilL)))) (cE (.str " 0 0"))))
abbrev hI__law_text_3 : LE := (itL rng1D (consL (op2 subI (frE (callB (sh1 lenD) (consL (vE 0) nilL))) (cE (.int 1))) nilL))
abbrev hT__law_text_3 : D → List W → Option (List W) := (bN 2)
abbrev hB__law_text_3 : DS := (appS (.sl 1) (op2 addD (op2 addD (op2 addD (op2 addD (cE (.str "letter d")) (frE (callB (sh1 strD) (consL (vE 2) nilL)))) (cE (.str " d"))) (frE (callB (sh1 strD) (consL (op2 addD (vE 2) (cE (.int 1))) nilL)))) (cE (.str " 0 0"))))
abbrev h__law_text_3 : DS := forS hI__law_text_3 hT__law_text_3 hB__law_text_3
abbrev h__law_text_4 : DS := (retS (m1E joinD (cE (.str "\n")) (vF 1)))
def g__law_take : DS :=
  (seqS (ifS (bE (op2 gtI (subP (.sl 0) (cE (.int 0))) (cE (.int 0))))
  (seqS (asgS 2 (shE (op2 modI (frE (callB (sh1 intD) (consL (subP (.sl 0) (cE (.int 0))) nilL))) (vE 1))))
  (seqS (asG (op2 divI (subP (.sl 0) (cE (.int 0))) (vE 1)) (stB (.sl 0) (cE (.int 0))))
  (retS (shE (vE 2)))))
  skipS)
  (seqS (asG (op2 addD (subP (.sl 0) (cE (.int 2))) (cE (.int 1))) (stB (.sl 0) (cE (.int 2))))
  (seqS (asgS 3 (shE (op2 subD (frE (lstE (consL (cE (.int 2147483647)) (consL (cE (.int 2147483629)) (consL (cE (.int 2147483587)) (consL (cE (.int 2147483579)) (consL (cE (.int 2147483563)) nilL))))))) (op2 modI (frE (callB (sh1 intD) (consL (subP (.sl 0) (cE (.int 2))) nilL))) (cE (.int 5))))))
  (seqS (asgS 4 (shE (op2 modI (frE (callB (sh1 intD) (consL (op2 powI (frE (callB (sh1 intD) (consL (op2 addD (op2 addD (subP (.sl 0) (cE (.int 1))) (op2 mulI (op2 mulI (cE (.int 119213)) (subP (.sl 0) (cE (.int 2)))) (subP (.sl 0) (cE (.int 2))))) (cE (.int 5637))) nilL))) (cE (.int 3))) nilL))) (vE 3))))
  (seqS (asgS 4 (shE (op2 modI (frE (callB (sh1 intD) (consL (op2 mulI (vE 4) (op2 addD (op2 modI (frE (callB (sh1 intD) (consL (vE 4) nilL))) (cE (.int 28279))) (op2 mulI (cE (.int 3279)) (subP (.sl 0) (cE (.int 2)))))) nilL))) (cE (.int 2305843009213693907)))))
  (retS (shE (op2 modI (frE (callB (sh1 intD) (consL (op2 divI (vE 4) (cE (.int 8413))) nilL))) (vE 1)))))))))
def m__law_take : O → List D → Option (O × O) := fnR 2 5 g__law_take
abbrev h__law_take_1_1 : DS := (asgS 2 (shE (op2 modI (frE (callB (sh1 intD) (consL (subP (.sl 0) (cE (.int 0))) nilL))) (vE 1))))
abbrev h__law_take_1_2 : DS := (asG (op2 divI (subP (.sl 0) (cE (.int 0))) (vE 1)) (stB (.sl 0) (cE (.int 0))))
abbrev h__law_take_1_3 : DS := (retS (shE (vE 2)))
abbrev hC__law_take_1 : BE := (bE (op2 gtI (subP (.sl 0) (cE (.int 0))) (cE (.int 0))))
abbrev hA__law_take_1 : DS := (seqS (asgS 2 (shE (op2 modI (frE (callB (sh1 intD) (consL (subP (.sl 0) (cE (.int 0))) nilL))) (vE 1))))
  (seqS (asG (op2 divI (subP (.sl 0) (cE (.int 0))) (vE 1)) (stB (.sl 0) (cE (.int 0))))
  (retS (shE (vE 2)))))
abbrev hE__law_take_1 : DS := skipS
abbrev h__law_take_1 : DS := ifS hC__law_take_1 hA__law_take_1 hE__law_take_1
abbrev h__law_take_2 : DS := (asG (op2 addD (subP (.sl 0) (cE (.int 2))) (cE (.int 1))) (stB (.sl 0) (cE (.int 2))))
abbrev h__law_take_3 : DS := (asgS 3 (shE (op2 subD (frE (lstE (consL (cE (.int 2147483647)) (consL (cE (.int 2147483629)) (consL (cE (.int 2147483587)) (consL (cE (.int 2147483579)) (consL (cE (.int 2147483563)) nilL))))))) (op2 modI (frE (callB (sh1 intD) (consL (subP (.sl 0) (cE (.int 2))) nilL))) (cE (.int 5))))))
abbrev h__law_take_4 : DS := (asgS 4 (shE (op2 modI (frE (callB (sh1 intD) (consL (op2 powI (frE (callB (sh1 intD) (consL (op2 addD (op2 addD (subP (.sl 0) (cE (.int 1))) (op2 mulI (op2 mulI (cE (.int 119213)) (subP (.sl 0) (cE (.int 2)))) (subP (.sl 0) (cE (.int 2))))) (cE (.int 5637))) nilL))) (cE (.int 3))) nilL))) (vE 3))))
abbrev h__law_take_5 : DS := (asgS 4 (shE (op2 modI (frE (callB (sh1 intD) (consL (op2 mulI (vE 4) (op2 addD (op2 modI (frE (callB (sh1 intD) (consL (vE 4) nilL))) (cE (.int 28279))) (op2 mulI (cE (.int 3279)) (subP (.sl 0) (cE (.int 2)))))) nilL))) (cE (.int 2305843009213693907)))))
abbrev h__law_take_6 : DS := (retS (shE (op2 modI (frE (callB (sh1 intD) (consL (op2 divI (vE 4) (cE (.int 8413))) nilL))) (vE 1))))
def g__law_of : DS :=
  (retS (shE (op2 subD (vE 1) (frE (callR 2 m__law_take 0 (consL (frE (callB (sh1 lenD) (consL (vE 1) nilL))) nilL))))))
def m__law_of : O → List D → Option (O × O) := fnR 2 2 g__law_of
abbrev h__law_of_1 : DS := (retS (shE (op2 subD (vE 1) (frE (callR 2 m__law_take 0 (consL (frE (callB (sh1 lenD) (consL (vE 1) nilL))) nilL))))))
def g__law_right : DS :=
  (seqS (parO3 1 2 3 (consO (shE (op2 addD (cE (.int 2)) (frE (callR 2 m__law_take 0 (consL (cE (.int 7)) nilL))))) (consO (lstE nilL) (consO (shE (frE (callR 2 m__law_of 0 (consL (frE (lstE (consL (cE (.int 2)) (consL (cE (.int 6)) (consL (cE (.int 30)) nilL))))) nilL)))) nilO))))
  (seqS (forS (itL rng1D (consL (vE 1) nilL)) (bN 4)
  (seqS (asgS 5 (shE (frE (callB (sh1 intD) (consL (op2 subI (frE (callR 2 m__law_take 0 (consL (cE (.int 9)) nilL))) (cE (.int 4))) nilL)))))
  (appS (.sl 2) (tupE (consL (vE 5) (consL (frE (callB (sh1 intD) (consL (op2 addD (vE 5) (frE (callR 2 m__law_take 0 (consL (vE 3) nilL)))) nilL))) (consL (frE (callB (sh1 intD) (consL (op2 addD (cE (.int 50)) (frE (callR 2 m__law_take 0 (consL (frE (callR 2 m__law_of 0 (consL (frE (lstE (consL (cE (.int 3)) (consL (cE (.int 10)) nilL)))) nilL))) nilL)))) nilL))) nilL)))))))
  (seqS (asgS 6 (shE (frE (makeE "Log" 2 m_Log__init_ (consL (frE (callP 1 m__law_text (consL (vF 2) nilL))) nilL)))))
  (seqS (asgS 7 (shE (frE (callB (sh1 tupleD) (consL (frE (lcE [5, 8, 9] (itE seqS' (vF 2)) (bT 3 (bCons (bN 5) (bCons (bN 8) (bCons (bN 9) bNil)))) yesB (tupE (consL (op2 subI (vE 9) (vE 8)) (consL (op2 subI (vE 9) (vE 5)) nilL))))) nilL)))))
  (seqS (parO 10 11 (consO (shE (frE (callP 2 m_truth_spans (consL (vE 7) (consL (cE (.int 0)) nilL))))) (consO (shE (frE (callP 1 m_fitting (consL (vE 6) nilL)))) nilO)))
  (seqS (ifS (bE (op2 (eqD true) (op2 (eqD false) (op2 subD (vE 10) (cE (.int 0))) (cE (.str "spans"))) (op2 (eqD false) (op2 subD (vE 11) (cE (.int 0))) (cE (.str "course")))))
  (retS (shE (cE (.bl false))))
  skipS)
  (seqS (asG (tupE (consL (frE (callB (sh1 maxD) (consL (frE (lcE [12] (itE seqS' (vE 7)) (bN 12) yesB (op2 subD (vE 12) (cE (.int 0))))) nilL))) (consL (frE (callB (sh1 minD) (consL (frE (lcE [12] (itE seqS' (vE 7)) (bN 12) yesB (op2 subD (vE 12) (cE (.int 1))))) nilL))) nilL))) (bT 2 (bCons (nmB 5) (bCons (nmB 8) bNil))))
  (seqS (ifS (orB (bE (op2 (eqD true) (op2 leI (vE 5) (vE 8)) (op2 (eqD false) (op2 subD (vE 10) (cE (.int 0))) (cE (.str "spans"))))) (bE (op2 (eqD true) (frE (callP 2 m_trimmed (consL (vE 7) (consL (cE (.int 0)) nilL)))) (tupE (consL (vE 5) (consL (vE 8) nilL))))))
  (retS (shE (cE (.bl false))))
  skipS)
  (seqS (ifS (bE (op2 (eqD true) (op2 (eqD false) (op2 subD (frE (callP 1 m_best_agreed (consL (vE 7) nilL))) (cE (.int 0))) (vE 1)) (op2 leI (vE 5) (vE 8))))
  (retS (shE (cE (.bl false))))
  skipS)
  (seqS (ifS (bE (op2 (eqD false) (op2 subD (vE 10) (cE (.int 0))) (cE (.str "more"))))
  (seqS (asgS 4 (shE (frE (callR 2 m__law_take 0 (consL (vE 1) nilL)))))
  (seqS (asgS 13 (shE (op2 addD (frE (slE (vF 2) noPa (atPa (vE 4)))) (frE (slE (vF 2) (atPa (op2 addD (vE 4) (cE (.int 1)))) noPa)))))
  (seqS (asgS 14 (shE (frE (callB (sh1 tupleD) (consL (frE (lcE [15, 12] (itL enumD (consL (vE 7) nilL)) (bT 2 (bCons (bN 15) (bCons (bN 12) bNil))) (bE (op2 (eqD true) (vE 15) (vE 4))) (vE 12))) nilL)))))
  (retS (shE (op2 (eqD false) (op2 (eqD false) (op2 subD (frE (callP 2 m_truth_spans (consL (vE 14) (consL (cE (.int 0)) nilL)))) (cE (.int 0))) (cE (.str "spans"))) (op2 (eqD false) (op2 subD (frE (callP 1 m_fitting (consL (frE (makeE "Log" 2 m_Log__init_ (consL (frE (callP 1 m__law_text (consL (vE 13) nilL))) nilL))) nilL))) (cE (.int 0))) (cE (.str "course")))))))))
  skipS)
  (seqS (ifS (orB (bE (op2 (eqD true) (vE 10) (tupE (consL (cE (.str "spans")) (consL (tupE (consL (tupE (consL (vE 5) (consL (vE 8) nilL))) nilL)) nilL))))) (orB (bE (op2 (eqD true) (frE (callP 2 m_agreed (consL (vE 7) (consL (vE 1) nilL)))) (tupE (consL (tupE (consL (vE 5) (consL (vE 8) nilL))) nilL)))) (bE (op2 (eqD true) (frE (callP 2 m_hull (consL (vE 7) (consL (cE (.int 0)) nilL)))) (tupE (consL (vE 5) (consL (vE 8) nilL)))))))
  (retS (shE (cE (.bl false))))
  skipS)
  (seqS (ifS (orB (notB (bE (frE (callB (sh1 allD) (consL (frE (lcE [4] (itL rng1D (consL (vE 1) nilL)) (bN 4) yesB (op2 (eqD false) (frE (callP 2 m_span_of (consL (vE 6) (consL (op2 addD (cE (.str "d")) (frE (callB (sh1 strD) (consL (vE 4) nilL)))) nilL)))) (tupE (consL (vE 5) (consL (vE 8) nilL)))))) nilL))))) (bE (op2 (eqD true) (frE (callP 2 m_surely_wrong (consL (vE 7) (consL (cE (.int 0)) nilL)))) (tupE nilL))))
  (retS (shE (cE (.bl false))))
  skipS)
  (seqS (asgS 16 (shE (frE (callP 2 m_times (consL (vE 6) (consL (op2 subD (vE 11) (cE (.int 1))) nilL))))))
  (seqS (ifS (orB (notB (bE (frE (callB (sh1 allD) (consL (frE (lcE [17] (itE seqS' (vE 16)) (bN 17) yesB (op2 (eqD false) (vE 17) (op2 subD (vE 16) (cE (.int 0)))))) nilL))))) (bE (op2 (eqD true) (frE (callP 2 m_have (consL (vE 7) (consL (op2 subD (vE 16) (cE (.int 0))) nilL)))) (tupRg (rg1 (vE 1))))))
  (retS (shE (cE (.bl false))))
  skipS)
  (seqS (asgS 18 (shE (frE (callP 2 m_without (consL (vE 6) (consL (tupE (consL (op2 addD (cE (.str "d")) (frE (callB (sh1 strD) (consL (op2 subI (vE 1) (cE (.int 1))) nilL)))) nilL)) nilL))))))
  (retS (shE (op2 (eqD false) (frE (callP 2 m_span_of (consL (vE 18) (consL (cE (.str "d0")) nilL)))) (frE (callP 2 m_hull (consL (frE (slE (vE 7) noPa (atPa (op1 negI (cE (.int 1)))))) (consL (cE (.int 0)) nilL))))))))))))))))))))))
def m__law_right : O → List D → Option (O × O) := fnR 1 19 g__law_right
abbrev h__law_right_1 : DS := (parO3 1 2 3 (consO (shE (op2 addD (cE (.int 2)) (frE (callR 2 m__law_take 0 (consL (cE (.int 7)) nilL))))) (consO (lstE nilL) (consO (shE (frE (callR 2 m__law_of 0 (consL (frE (lstE (consL (cE (.int 2)) (consL (cE (.int 6)) (consL (cE (.int 30)) nilL))))) nilL)))) nilO))))
abbrev h__law_right_2_1 : DS := (asgS 5 (shE (frE (callB (sh1 intD) (consL (op2 subI (frE (callR 2 m__law_take 0 (consL (cE (.int 9)) nilL))) (cE (.int 4))) nilL)))))
abbrev h__law_right_2_2 : DS := (appS (.sl 2) (tupE (consL (vE 5) (consL (frE (callB (sh1 intD) (consL (op2 addD (vE 5) (frE (callR 2 m__law_take 0 (consL (vE 3) nilL)))) nilL))) (consL (frE (callB (sh1 intD) (consL (op2 addD (cE (.int 50)) (frE (callR 2 m__law_take 0 (consL (frE (callR 2 m__law_of 0 (consL (frE (lstE (consL (cE (.int 3)) (consL (cE (.int 10)) nilL)))) nilL))) nilL)))) nilL))) nilL)))))
abbrev hI__law_right_2 : LE := (itL rng1D (consL (vE 1) nilL))
abbrev hT__law_right_2 : D → List W → Option (List W) := (bN 4)
abbrev hB__law_right_2 : DS := (seqS (asgS 5 (shE (frE (callB (sh1 intD) (consL (op2 subI (frE (callR 2 m__law_take 0 (consL (cE (.int 9)) nilL))) (cE (.int 4))) nilL)))))
  (appS (.sl 2) (tupE (consL (vE 5) (consL (frE (callB (sh1 intD) (consL (op2 addD (vE 5) (frE (callR 2 m__law_take 0 (consL (vE 3) nilL)))) nilL))) (consL (frE (callB (sh1 intD) (consL (op2 addD (cE (.int 50)) (frE (callR 2 m__law_take 0 (consL (frE (callR 2 m__law_of 0 (consL (frE (lstE (consL (cE (.int 3)) (consL (cE (.int 10)) nilL)))) nilL))) nilL)))) nilL))) nilL))))))
abbrev h__law_right_2 : DS := forS hI__law_right_2 hT__law_right_2 hB__law_right_2
abbrev h__law_right_3 : DS := (asgS 6 (shE (frE (makeE "Log" 2 m_Log__init_ (consL (frE (callP 1 m__law_text (consL (vF 2) nilL))) nilL)))))
abbrev h__law_right_4 : DS := (asgS 7 (shE (frE (callB (sh1 tupleD) (consL (frE (lcE [5, 8, 9] (itE seqS' (vF 2)) (bT 3 (bCons (bN 5) (bCons (bN 8) (bCons (bN 9) bNil)))) yesB (tupE (consL (op2 subI (vE 9) (vE 8)) (consL (op2 subI (vE 9) (vE 5)) nilL))))) nilL)))))
abbrev h__law_right_5 : DS := (parO 10 11 (consO (shE (frE (callP 2 m_truth_spans (consL (vE 7) (consL (cE (.int 0)) nilL))))) (consO (shE (frE (callP 1 m_fitting (consL (vE 6) nilL)))) nilO)))
abbrev hC__law_right_6 : BE := (bE (op2 (eqD true) (op2 (eqD false) (op2 subD (vE 10) (cE (.int 0))) (cE (.str "spans"))) (op2 (eqD false) (op2 subD (vE 11) (cE (.int 0))) (cE (.str "course")))))
abbrev hA__law_right_6 : DS := (retS (shE (cE (.bl false))))
abbrev hE__law_right_6 : DS := skipS
abbrev h__law_right_6 : DS := ifS hC__law_right_6 hA__law_right_6 hE__law_right_6
abbrev h__law_right_7 : DS := (asG (tupE (consL (frE (callB (sh1 maxD) (consL (frE (lcE [12] (itE seqS' (vE 7)) (bN 12) yesB (op2 subD (vE 12) (cE (.int 0))))) nilL))) (consL (frE (callB (sh1 minD) (consL (frE (lcE [12] (itE seqS' (vE 7)) (bN 12) yesB (op2 subD (vE 12) (cE (.int 1))))) nilL))) nilL))) (bT 2 (bCons (nmB 5) (bCons (nmB 8) bNil))))
abbrev hC__law_right_8 : BE := (orB (bE (op2 (eqD true) (op2 leI (vE 5) (vE 8)) (op2 (eqD false) (op2 subD (vE 10) (cE (.int 0))) (cE (.str "spans"))))) (bE (op2 (eqD true) (frE (callP 2 m_trimmed (consL (vE 7) (consL (cE (.int 0)) nilL)))) (tupE (consL (vE 5) (consL (vE 8) nilL))))))
abbrev hA__law_right_8 : DS := (retS (shE (cE (.bl false))))
abbrev hE__law_right_8 : DS := skipS
abbrev h__law_right_8 : DS := ifS hC__law_right_8 hA__law_right_8 hE__law_right_8
abbrev hC__law_right_9 : BE := (bE (op2 (eqD true) (op2 (eqD false) (op2 subD (frE (callP 1 m_best_agreed (consL (vE 7) nilL))) (cE (.int 0))) (vE 1)) (op2 leI (vE 5) (vE 8))))
abbrev hA__law_right_9 : DS := (retS (shE (cE (.bl false))))
abbrev hE__law_right_9 : DS := skipS
abbrev h__law_right_9 : DS := ifS hC__law_right_9 hA__law_right_9 hE__law_right_9
abbrev h__law_right_10_1 : DS := (asgS 4 (shE (frE (callR 2 m__law_take 0 (consL (vE 1) nilL)))))
abbrev h__law_right_10_2 : DS := (asgS 13 (shE (op2 addD (frE (slE (vF 2) noPa (atPa (vE 4)))) (frE (slE (vF 2) (atPa (op2 addD (vE 4) (cE (.int 1)))) noPa)))))
abbrev h__law_right_10_3 : DS := (asgS 14 (shE (frE (callB (sh1 tupleD) (consL (frE (lcE [15, 12] (itL enumD (consL (vE 7) nilL)) (bT 2 (bCons (bN 15) (bCons (bN 12) bNil))) (bE (op2 (eqD true) (vE 15) (vE 4))) (vE 12))) nilL)))))
abbrev h__law_right_10_4 : DS := (retS (shE (op2 (eqD false) (op2 (eqD false) (op2 subD (frE (callP 2 m_truth_spans (consL (vE 14) (consL (cE (.int 0)) nilL)))) (cE (.int 0))) (cE (.str "spans"))) (op2 (eqD false) (op2 subD (frE (callP 1 m_fitting (consL (frE (makeE "Log" 2 m_Log__init_ (consL (frE (callP 1 m__law_text (consL (vE 13) nilL))) nilL))) nilL))) (cE (.int 0))) (cE (.str "course"))))))
abbrev hC__law_right_10 : BE := (bE (op2 (eqD false) (op2 subD (vE 10) (cE (.int 0))) (cE (.str "more"))))
abbrev hA__law_right_10 : DS := (seqS (asgS 4 (shE (frE (callR 2 m__law_take 0 (consL (vE 1) nilL)))))
  (seqS (asgS 13 (shE (op2 addD (frE (slE (vF 2) noPa (atPa (vE 4)))) (frE (slE (vF 2) (atPa (op2 addD (vE 4) (cE (.int 1)))) noPa)))))
  (seqS (asgS 14 (shE (frE (callB (sh1 tupleD) (consL (frE (lcE [15, 12] (itL enumD (consL (vE 7) nilL)) (bT 2 (bCons (bN 15) (bCons (bN 12) bNil))) (bE (op2 (eqD true) (vE 15) (vE 4))) (vE 12))) nilL)))))
  (retS (shE (op2 (eqD false) (op2 (eqD false) (op2 subD (frE (callP 2 m_truth_spans (consL (vE 14) (consL (cE (.int 0)) nilL)))) (cE (.int 0))) (cE (.str "spans"))) (op2 (eqD false) (op2 subD (frE (callP 1 m_fitting (consL (frE (makeE "Log" 2 m_Log__init_ (consL (frE (callP 1 m__law_text (consL (vE 13) nilL))) nilL))) nilL))) (cE (.int 0))) (cE (.str "course")))))))))
abbrev hE__law_right_10 : DS := skipS
abbrev h__law_right_10 : DS := ifS hC__law_right_10 hA__law_right_10 hE__law_right_10
abbrev hC__law_right_11 : BE := (orB (bE (op2 (eqD true) (vE 10) (tupE (consL (cE (.str "spans")) (consL (tupE (consL (tupE (consL (vE 5) (consL (vE 8) nilL))) nilL)) nilL))))) (orB (bE (op2 (eqD true) (frE (callP 2 m_agreed (consL (vE 7) (consL (vE 1) nilL)))) (tupE (consL (tupE (consL (vE 5) (consL (vE 8) nilL))) nilL)))) (bE (op2 (eqD true) (frE (callP 2 m_hull (consL (vE 7) (consL (cE (.int 0)) nilL)))) (tupE (consL (vE 5) (consL (vE 8) nilL)))))))
abbrev hA__law_right_11 : DS := (retS (shE (cE (.bl false))))
abbrev hE__law_right_11 : DS := skipS
abbrev h__law_right_11 : DS := ifS hC__law_right_11 hA__law_right_11 hE__law_right_11
abbrev hC__law_right_12 : BE := (orB (notB (bE (frE (callB (sh1 allD) (consL (frE (lcE [4] (itL rng1D (consL (vE 1) nilL)) (bN 4) yesB (op2 (eqD false) (frE (callP 2 m_span_of (consL (vE 6) (consL (op2 addD (cE (.str "d")) (frE (callB (sh1 strD) (consL (vE 4) nilL)))) nilL)))) (tupE (consL (vE 5) (consL (vE 8) nilL)))))) nilL))))) (bE (op2 (eqD true) (frE (callP 2 m_surely_wrong (consL (vE 7) (consL (cE (.int 0)) nilL)))) (tupE nilL))))
abbrev hA__law_right_12 : DS := (retS (shE (cE (.bl false))))
abbrev hE__law_right_12 : DS := skipS
abbrev h__law_right_12 : DS := ifS hC__law_right_12 hA__law_right_12 hE__law_right_12
abbrev h__law_right_13 : DS := (asgS 16 (shE (frE (callP 2 m_times (consL (vE 6) (consL (op2 subD (vE 11) (cE (.int 1))) nilL))))))
abbrev hC__law_right_14 : BE := (orB (notB (bE (frE (callB (sh1 allD) (consL (frE (lcE [17] (itE seqS' (vE 16)) (bN 17) yesB (op2 (eqD false) (vE 17) (op2 subD (vE 16) (cE (.int 0)))))) nilL))))) (bE (op2 (eqD true) (frE (callP 2 m_have (consL (vE 7) (consL (op2 subD (vE 16) (cE (.int 0))) nilL)))) (tupRg (rg1 (vE 1))))))
abbrev hA__law_right_14 : DS := (retS (shE (cE (.bl false))))
abbrev hE__law_right_14 : DS := skipS
abbrev h__law_right_14 : DS := ifS hC__law_right_14 hA__law_right_14 hE__law_right_14
abbrev h__law_right_15 : DS := (asgS 18 (shE (frE (callP 2 m_without (consL (vE 6) (consL (tupE (consL (op2 addD (cE (.str "d")) (frE (callB (sh1 strD) (consL (op2 subI (vE 1) (cE (.int 1))) nilL)))) nilL)) nilL))))))
abbrev h__law_right_16 : DS := (retS (shE (op2 (eqD false) (frE (callP 2 m_span_of (consL (vE 18) (consL (cE (.str "d0")) nilL)))) (frE (callP 2 m_hull (consL (frE (slE (vE 7) noPa (atPa (op1 negI (cE (.int 1)))))) (consL (cE (.int 0)) nilL)))))))
def g__law_pot : DS :=
  (seqS (asgS 2 (shE (ifE (bE (op2 ltI (vE 1) (frE (callB (sh1 lenD) (consL (vE 0) nilL))))) (op2 subD (vE 0) (vE 1)) (op2 addD (op2 addD (op2 modI (frE (callB (sh1 sumD) (consL (frE (slE (vE 0) noPa (atPa (cE (.int 1))))) nilL))) (cE (.int 1000003))) (op2 mulI (cE (.int 29351)) (vE 1))) (cE (.int 8813))))))
  (seqS (asgS 3 (shE (op2 mulI (op2 modI (frE (callB (sh1 intD) (consL (frE (callB (sh1 absD) (consL (vE 2) nilL))) nilL))) (op2 powI (op2 powI (cE (.int 10)) (cE (.int 60))) (cE (.int 5)))) (frE (callB (sh1 intD) (consL (op2 geI (frE (callB (sh1 absD) (consL (vE 2) nilL))) (op2 powI (cE (.int 10)) (cE (.int 18)))) nilL))))))
  (seqS (asgS 4 (shE (op2 modI (frE (callB (sh1 intD) (consL (vE 2) nilL))) (cE (.int 2305843009213693951)))))
  (retS (lstE (consL (vE 3) (consL (op2 modI (frE (callB (sh1 intD) (consL (op2 addD (op2 addD (op2 mulI (vE 4) (cE (.int 114965))) (op2 mulI (op2 mulI (cE (.int 23627)) (vE 1)) (vE 1))) (cE (.int 10779))) nilL))) (cE (.int 2305843009213693921))) (consL (cE (.int 0)) nilL))))))))
def m__law_pot : List D → Option O := fnP 2 5 g__law_pot
abbrev h__law_pot_1 : DS := (asgS 2 (shE (ifE (bE (op2 ltI (vE 1) (frE (callB (sh1 lenD) (consL (vE 0) nilL))))) (op2 subD (vE 0) (vE 1)) (op2 addD (op2 addD (op2 modI (frE (callB (sh1 sumD) (consL (frE (slE (vE 0) noPa (atPa (cE (.int 1))))) nilL))) (cE (.int 1000003))) (op2 mulI (cE (.int 29351)) (vE 1))) (cE (.int 8813))))))
abbrev h__law_pot_2 : DS := (asgS 3 (shE (op2 mulI (op2 modI (frE (callB (sh1 intD) (consL (frE (callB (sh1 absD) (consL (vE 2) nilL))) nilL))) (op2 powI (op2 powI (cE (.int 10)) (cE (.int 60))) (cE (.int 5)))) (frE (callB (sh1 intD) (consL (op2 geI (frE (callB (sh1 absD) (consL (vE 2) nilL))) (op2 powI (cE (.int 10)) (cE (.int 18)))) nilL))))))
abbrev h__law_pot_3 : DS := (asgS 4 (shE (op2 modI (frE (callB (sh1 intD) (consL (vE 2) nilL))) (cE (.int 2305843009213693951)))))
abbrev h__law_pot_4 : DS := (retS (lstE (consL (vE 3) (consL (op2 modI (frE (callB (sh1 intD) (consL (op2 addD (op2 addD (op2 mulI (vE 4) (cE (.int 114965))) (op2 mulI (op2 mulI (cE (.int 23627)) (vE 1)) (vE 1))) (cE (.int 10779))) nilL))) (cE (.int 2305843009213693921))) (consL (cE (.int 0)) nilL)))))
def g_law : DS :=
  (seqS (forS (itE seqS' (frE (callP 2 m__law_cells (consL (vE 0) (consL (cE (.int 2)) nilL))))) (bN 1)
  (seqS (asgS 2 (callP 2 m__law_pot (consL (vE 0) (consL (vE 1) nilL))))
  (ifS (notB (bE (frE (callB (sh1 allD) (consL (frE (lcE [3] (itL rng1D (consL (cE (.int 5)) nilL)) (bN 3) yesB (frE (callR 1 m__law_right 2 nilL)))) nilL)))))
  (retS (shE (cE (.bl false))))
  skipS)))
  (retS (shE (cE (.bl true)))))
def m_law : List D → Option O := fnP 1 4 g_law
abbrev h_law_1_1 : DS := (asgS 2 (callP 2 m__law_pot (consL (vE 0) (consL (vE 1) nilL))))
abbrev hC_law_1_2 : BE := (notB (bE (frE (callB (sh1 allD) (consL (frE (lcE [3] (itL rng1D (consL (cE (.int 5)) nilL)) (bN 3) yesB (frE (callR 1 m__law_right 2 nilL)))) nilL)))))
abbrev hA_law_1_2 : DS := (retS (shE (cE (.bl false))))
abbrev hE_law_1_2 : DS := skipS
abbrev h_law_1_2 : DS := ifS hC_law_1_2 hA_law_1_2 hE_law_1_2
abbrev hI_law_1 : LE := (itE seqS' (frE (callP 2 m__law_cells (consL (vE 0) (consL (cE (.int 2)) nilL)))))
abbrev hT_law_1 : D → List W → Option (List W) := (bN 1)
abbrev hB_law_1 : DS := (seqS (asgS 2 (callP 2 m__law_pot (consL (vE 0) (consL (vE 1) nilL))))
  (ifS (notB (bE (frE (callB (sh1 allD) (consL (frE (lcE [3] (itL rng1D (consL (cE (.int 5)) nilL)) (bN 3) yesB (frE (callR 1 m__law_right 2 nilL)))) nilL)))))
  (retS (shE (cE (.bl false))))
  skipS))
abbrev h_law_1 : DS := forS hI_law_1 hT_law_1 hB_law_1
abbrev h_law_2 : DS := (retS (shE (cE (.bl true))))
end Hk98
/-! text Q9 -/
set_option linter.all false
set_option maxRecDepth 100000
set_option maxHeartbeats 1000000
namespace Hk98
open PySem L2 Dl Mi
theorem mod_ok {i j : Int} (h : 0 < j) : modI (.int i) (.int j) = some (.int (i % j)) := by
  unfold modI iicD
  simp [h]
theorem div_ok {i j : Int} (h : 0 < j) (h2 : j < 2 ^ 63) : divI (.int i) (.int j) = some (.int (i / j)) := by
  unfold divI iicD
  simp
  omega
theorem mulL_ok {i j : Int} (h : -(2 ^ 64) < i ∧ i < 2 ^ 64) : mulI (.int i) (.int j) = some (.int (i * j)) := by
  unfold mulI iicD
  simp
  omega
theorem mulR_ok {i j : Int} (h : -(2 ^ 64) < j ∧ j < 2 ^ 64) : mulI (.int i) (.int j) = some (.int (i * j)) := by
  unfold mulI iicD
  simp
  omega
theorem pow_ok {i j : Int} (h : 0 ≤ j ∧ j ≤ 1000 ∧ i.natAbs < 2 ^ 300) : powI (.int i) (.int j) = some (.int (i ^ j.toNat)) := by
  show (if decide (0 ≤ j ∧ j ≤ 1000 ∧ i.natAbs < 2 ^ 300) = true then some (D.int (i ^ j.toNat)) else none) = _
  rw [if_pos (decide_eq_true h)]
theorem int_ok' (i : Int) : intD (.int i) = some (.int i) := rfl
/-- a pot whose numbers are in bounds -/
structure Pot (a b c : Int) : Prop where
  a0 : 0 ≤ a
  b0 : 0 ≤ b
  b1 : b < 2 ^ 62
  c0 : 0 ≤ c
  c1 : c < 100000
def potO (a b c : Int) : O := .ol [.int a, .int b, .int c]
theorem prime_at (n : Int) : ∃ p, subD (.lst [.int 2147483647, .int 2147483629, .int 2147483587, .int 2147483579, .int 2147483563]) (.int (n % 5)) = some (.int p) ∧ 0 < p ∧ p < 2 ^ 31 := by
  have : n % 5 = 0 ∨ n % 5 = 1 ∨ n % 5 = 2 ∨ n % 5 = 3 ∨ n % 5 = 4 := by omega
  rcases this with h | h | h | h | h <;> rw [h]
  · exact ⟨2147483647, subD_lst (atI_nat (n := 0) rfl rfl), by decide, by decide⟩
  · exact ⟨2147483629, subD_lst (atI_nat (n := 1) rfl rfl), by decide, by decide⟩
  · exact ⟨2147483587, subD_lst (atI_nat (n := 2) rfl rfl), by decide, by decide⟩
  · exact ⟨2147483579, subD_lst (atI_nat (n := 3) rfl rfl), by decide, by decide⟩
  · exact ⟨2147483563, subD_lst (atI_nat (n := 4) rfl rfl), by decide, by decide⟩
theorem pot0 (a b c : Int) : subO (.ol [.int a, .int b, .int c]) (.int 0) = some (.int a) := rfl
theorem pot1 (a b c : Int) : subO (.ol [.int a, .int b, .int c]) (.int 1) = some (.int b) := rfl
theorem pot2 (a b c : Int) : subO (.ol [.int a, .int b, .int c]) (.int 2) = some (.int c) := rfl
theorem put0 (a b c d : Int) : putO (.ol [.int a, .int b, .int c]) (.int 0) (.int d) = some (.ol [.int d, .int b, .int c]) := rfl
theorem put2 (a b c d : Int) : putO (.ol [.int a, .int b, .int c]) (.int 2) (.int d) = some (.ol [.int a, .int b, .int d]) := rfl
theorem p_take {a b c u : Int} (p : Pot a b c) (u0 : 0 < u) (u1 : u < 2 ^ 62) : ∃ r a' c', m__law_take (potO a b c) [.int u] = some (.sh (.int r), potO a' b c') ∧ 0 ≤ r ∧ r < u ∧ 0 ≤ a' ∧ c ≤ c' ∧ c' ≤ c + 1 := by
  by_cases h : 0 < a
  · refine ⟨a % u, a / u, c, ?_, Int.emod_nonneg _ (by omega), Int.emod_lt_of_pos _ u0, Int.ediv_nonneg p.a0 (by omega), Int.le_refl _, by omega⟩
    unfold m__law_take fnR g__law_take potO
    simp [pot0, h, int_ok', mod_ok u0, nb, div_ok u0 (show u < 2 ^ 63 by omega), put0]
  · obtain ⟨pr, hp, p0, p1⟩ := prime_at (c + 1)
    have c2 : 0 ≤ 119213 * (c + 1) := by have := p.c0; omega
    have c3 : 119213 * (c + 1) * (c + 1) ≤ 119213 * 100000 * 100000 := by
      have h1 : 119213 * (c + 1) ≤ 119213 * 100000 := by have := p.c1; omega
      exact Int.mul_le_mul h1 (by have := p.c1; omega) (by have := p.c0; omega) (by decide)
    have c4 : 0 ≤ 119213 * (c + 1) * (c + 1) := Int.mul_nonneg c2 (by have := p.c0; omega)
    have hb : (b + 119213 * (c + 1) * (c + 1) + 5637).natAbs < 2 ^ 300 := Nat.lt_of_lt_of_le (show _ < 2 ^ 63 by have := p.b0; have := p.b1; omega) (Nat.pow_le_pow_right (by decide) (by decide))
    have e1 : mulI (.int 119213) (.int (c + 1)) = some (.int (119213 * (c + 1))) := mulL_ok (by decide)
    have e2 : mulI (.int (119213 * (c + 1))) (.int (c + 1)) = some (.int (119213 * (c + 1) * (c + 1))) := mulR_ok (by have := p.c0; have := p.c1; omega)
    have e3 : powI (.int (b + 119213 * (c + 1) * (c + 1) + 5637)) (.int 3) = some (.int ((b + 119213 * (c + 1) * (c + 1) + 5637) ^ 3)) := pow_ok ⟨by decide, by decide, hb⟩
    have e4 : ∀ i, modI (.int i) (.int pr) = some (.int (i % pr)) := fun i => mod_ok p0
    have e5 : mulI (.int 3279) (.int (c + 1)) = some (.int (3279 * (c + 1))) := mulL_ok (by decide)
    have e6 : ∀ i j, mulI (.int (i % pr)) (.int j) = some (.int (i % pr * j)) := fun i j => mulL_ok (by
      have := Int.emod_nonneg i (show pr ≠ 0 by omega)
      have := Int.emod_lt_of_pos i p0
      omega)
    have e7 : ∀ i, modI (.int i) (.int 28279) = some (.int (i % 28279)) := fun i => mod_ok (by decide)
    have e8 : ∀ i, modI (.int i) (.int 2305843009213693907) = some (.int (i % 2305843009213693907)) := fun i => mod_ok (by decide)
    have e9 : ∀ i, divI (.int i) (.int 8413) = some (.int (i / 8413)) := fun i => div_ok (by decide) (by decide)
    have e10 : ∀ i, modI (.int i) (.int u) = some (.int (i % u)) := fun i => mod_ok u0
    have e11 : modI (.int (c + 1)) (.int 5) = some (.int ((c + 1) % 5)) := mod_ok (by decide)
    refine ⟨_, a, c + 1, ?_, Int.emod_nonneg (((b + 119213 * (c + 1) * (c + 1) + 5637) ^ 3 % pr * ((b + 119213 * (c + 1) * (c + 1) + 5637) ^ 3 % pr % 28279 + 3279 * (c + 1))) % 2305843009213693907 / 8413) (by omega), Int.emod_lt_of_pos _ u0, p.a0, by omega, Int.le_refl _⟩
    unfold m__law_take fnR g__law_take potO
    simp [pot0, pot1, pot2, h, int_ok', nb, put2, small, e1, e2, e3, e4, e5, e6, e7, e8, e9, e10, e11, hp]
end Hk98
/-! text Q10 -/
set_option linter.all false
set_option maxRecDepth 100000
set_option maxHeartbeats 1000000
namespace Hk98
open PySem L2 Dl Mi
theorem p_of {a b c : Int} (p : Pot a b c) (l : List Int) (h0 : l ≠ []) (h1 : l.length ≤ 1000) : ∃ x a' c', m__law_of (potO a b c) [.lst (l.map D.int)] = some (.sh (.int x), potO a' b c') ∧ x ∈ l ∧ 0 ≤ a' ∧ c ≤ c' ∧ c' ≤ c + 1 := by
  have hn : 0 < l.length := List.length_pos_iff.mpr h0
  obtain ⟨r, a', c', e, r0, r1, a0, c1, c2⟩ := p_take p (u := (l.length : Int)) (by omega) (by omega)
  have lt : r.toNat < l.length := by omega
  refine ⟨l[r.toNat], a', c', ?_, List.getElem_mem lt, a0, c1, c2⟩
  have e2 : lenD (.lst (l.map D.int)) = some (.int (l.length : Nat)) := by unfold lenD; simp
  have e3 : subD (.lst (l.map D.int)) (.int r) = some (.int l[r.toNat]) := subD_lst (atI_nat (n := r.toNat) (by omega) (by rw [List.getElem?_map, List.getElem?_eq_getElem lt]; rfl))
  unfold m__law_of fnR g__law_of
  simp [callR, has, e2, e, e3]
theorem rgOk_of {n : Int} (h0 : 0 ≤ n) (h : n ≤ 1000) : rgOk 0 n = true := decide_eq_true (by omega)
theorem p_cells (ns : List Int) (h : ns.length ≤ 63) : m__law_cells [.fl (ns.map D.int), .int 2] = some (.ol ((List.range (max 1 (min 2 ns.length))).map fun i => .int (i : Nat))) := by
  have e1 : lenD (.fl (ns.map D.int)) = some (.int (ns.length : Nat)) := by unfold lenD; simp
  have e2 : max2D (.int 1) (.int (min 2 (ns.length : Int))) = some (.int (max 1 (min 2 (ns.length : Int)))) := rfl
  have e3 : min2D (.int 2) (.int (ns.length : Int)) = some (.int (min 2 (ns.length : Int))) := rfl
  have e4 : rgOk 0 (max 1 (min 2 (ns.length : Int))) = true := rgOk_of (by omega) (by omega)
  have e5 : (max 1 (min 2 (ns.length : Int))).toNat = max 1 (min 2 ns.length) := by omega
  unfold m__law_cells fnP g__law_cells
  simp [lstRg, rg1, e1, e2, e3, e4, e5, rangeD]
theorem sum_one (ns : List Int) : ∃ s, sumD (.lst (cutD (ns.map D.int) none (some 1))) = some (.int s) := by
  have e : cutD (ns.map D.int) none (some 1) = (ns.take 1).map D.int := by
    cases ns with
    | nil => rfl
    | cons x r =>
      unfold cutD HT.sIx
      simp
  rw [e]
  have : lintsD (.lst ((ns.take 1).map D.int)) = some (ns.take 1) := ints_of _
  unfold sumD
  rw [this]
  exact ⟨_, rfl⟩
theorem p_pot (ns : List Int) (h : ns.length ≤ 63) (place : Int) (h0 : 0 ≤ place) (h1 : place ≤ 1) : ∃ a b, m__law_pot [.fl (ns.map D.int), .int place] = some (potO a b 0) ∧ Pot a b 0 := by
  have e1 : lenD (.fl (ns.map D.int)) = some (.int (ns.length : Nat)) := by unfold lenD; simp
  -- the cell
  have cell : ∃ v : Int, ifE (bE (op2 ltI (vE 1) (frE (callB (sh1 lenD) (consL (vE 0) nilL))))) (op2 subD (vE 0) (vE 1)) (op2 addD (op2 addD (op2 modI (frE (callB (sh1 sumD) (consL (frE (slE (vE 0) noPa (atPa (cE (.int 1))))) nilL))) (cE (.int 1000003))) (op2 mulI (cE (.int 29351)) (vE 1))) (cE (.int 8813)))
      [W.w false (.sh (.fl (ns.map D.int))), W.w false (.sh (.int place)), W.un, W.un, W.un] = some (.int v, [W.w false (.sh (.fl (ns.map D.int))), W.w false (.sh (.int place)), W.un, W.un, W.un]) := by
    by_cases c : place < (ns.length : Int)
    · have lt : place.toNat < ns.length := by omega
      have e2 : subD (.fl (ns.map D.int)) (.int place) = some (.int ns[place.toNat]) := by
        have q : atI (ns.map D.int) place = some (.int ns[place.toNat]) := atI_nat (n := place.toNat) (by omega) (by rw [List.getElem?_map, List.getElem?_eq_getElem lt]; rfl)
        simp [subD, orF, ixL, q]
      exact ⟨_, by simp [ifE, e1, c, e2]; rfl⟩
    · obtain ⟨s, hs⟩ := sum_one ns
      have e2 : modI (.int s) (.int 1000003) = some (.int (s % 1000003)) := mod_ok (by decide)
      have e3 : mulI (.int 29351) (.int place) = some (.int (29351 * place)) := mulL_ok (by decide)
      exact ⟨s % 1000003 + 29351 * place + 8813, by simp [ifE, e1, c, slO, hs, e2, e3]⟩
  obtain ⟨v, hv⟩ := cell
  have hab : absD (.int v) = some (.int (if v < 0 then -v else v)) := rfl
  generalize hav : (if v < 0 then -v else v) = av at hab
  have av0 : 0 ≤ av := by rw [← hav]; split <;> omega
  have p1 : powI (.int 10) (.int 60) = some (.int (10 ^ 60)) := pow_ok ⟨by decide, by decide, Nat.lt_of_lt_of_le (show (10 : Nat) < 2 ^ 4 by decide) (Nat.pow_le_pow_right (by decide) (by decide))⟩
  have p2 : powI (.int (10 ^ 60)) (.int 5) = some (.int ((10 ^ 60) ^ 5)) := pow_ok ⟨by decide, by decide, Nat.lt_of_lt_of_le (show ((10 : Int) ^ 60).natAbs < 2 ^ 200 by decide +kernel) (Nat.pow_le_pow_right (by decide) (by decide))⟩
  have p3 : powI (.int 10) (.int 18) = some (.int (10 ^ 18)) := pow_ok ⟨by decide, by decide, Nat.lt_of_lt_of_le (show (10 : Nat) < 2 ^ 4 by decide) (Nat.pow_le_pow_right (by decide) (by decide))⟩
  have pp : (0 : Int) < (10 ^ 60) ^ 5 := by decide +kernel
  have m1 : modI (.int av) (.int ((10 ^ 60) ^ 5)) = some (.int (av % ((10 ^ 60) ^ 5))) := mod_ok pp
  have m2 : ∀ b : Bool, mulI (.int (av % ((10 ^ 60) ^ 5))) (.int (if b then 1 else 0)) = some (.int (av % ((10 ^ 60) ^ 5) * (if b then 1 else 0))) := fun b => mulR_ok (by cases b <;> decide)
  have i1 : ∀ b : Bool, intD (.bl b) = some (.int (if b then 1 else 0)) := fun b => rfl
  have m3 : modI (.int v) (.int 2305843009213693951) = some (.int (v % 2305843009213693951)) := mod_ok (by decide)
  have s0 := Int.emod_nonneg v (show (2305843009213693951 : Int) ≠ 0 by decide)
  have s1 := Int.emod_lt_of_pos v (show (0 : Int) < 2305843009213693951 by decide)
  have m4 : mulI (.int (v % 2305843009213693951)) (.int 114965) = some (.int (v % 2305843009213693951 * 114965)) := mulR_ok (by decide)
  have m5 : mulI (.int 23627) (.int place) = some (.int (23627 * place)) := mulL_ok (by decide)
  have m6 : mulI (.int (23627 * place)) (.int place) = some (.int (23627 * place * place)) := mulR_ok (by omega)
  have m7 : ∀ i, modI (.int i) (.int 2305843009213693921) = some (.int (i % 2305843009213693921)) := fun i => mod_ok (by decide)
  refine ⟨av % ((10 ^ 60) ^ 5) * (if decide (10 ^ 18 ≤ av) then 1 else 0), (v % 2305843009213693951 * 114965 + 23627 * place * place + 10779) % 2305843009213693921, ?_, ?_⟩
  · unfold m__law_pot fnP g__law_pot potO
    simp only [ev_seq, ev_asg, ev_sh, List.map_cons, List.map_nil, List.cons_append, List.nil_append, show (5 - 2 : Nat) = 3 from rfl, show List.replicate 3 W.un = [W.un, W.un, W.un] from rfl]
    rw [hv]
    have m2' := m2 (decide (10 ^ 18 ≤ av))
    have i1' := i1 (decide (10 ^ 18 ≤ av))
    simp only [Option.map_some, nb, List.getElem?_cons_succ, List.getElem?_cons_zero, if_true, List.set_cons_succ, List.set_cons_zero, ev_op2, ev_fr, ev_callB, ev_cons, ev_v, ev_nil, ev_sh1, hab, frz_sh, int_ok', ev_c, p1, p2, p3, m1, ii_ge, i1', m2', m3, ev_ret, ev_lst, m4, m5, m6, ii_add, m7, small]
    rfl
  · refine ⟨?_, Int.emod_nonneg _ (by decide), Int.lt_trans (Int.emod_lt_of_pos _ (by decide)) (by decide), Int.le_refl _, by decide⟩
    refine Int.mul_nonneg (Int.emod_nonneg _ (Int.ne_of_gt pp)) ?_
    split <;> decide
end Hk98
/-! text Q12 -/
set_option linter.all false
set_option maxRecDepth 100000
set_option maxHeartbeats 1000000
namespace Hk98
open PySem L2 Dl Mi
def rowD (r : Int × Int × Int) : D := .tup [.int r.1, .int r.2.1, .int r.2.2]
/-- a drawn row -/
def RowOk (r : Int × Int × Int) : Prop := -4 ≤ r.1 ∧ r.1 ≤ 4 ∧ r.1 ≤ r.2.1 ∧ r.2.1 ≤ r.1 + 29 ∧ 50 ≤ r.2.2 ∧ r.2.2 ≤ 59
abbrev riS (o : O) (many : Int) (rows : List (Int × Int × Int)) (wide : Int) (x y : W) : List W := [W.w true o, W.w false (.sh (.int many)), W.w false (.ol (rows.map rowD)), W.w false (.sh (.int wide)), x, y, W.un, W.un, W.un, W.un, W.un, W.un, W.un, W.un, W.un, W.un, W.un, W.un, W.un]
def rowB : DS := (seqS (asgS 5 (shE (frE (callB (sh1 intD) (consL (op2 subI (frE (callR 2 m__law_take 0 (consL (cE (.int 9)) nilL))) (cE (.int 4))) nilL)))))
  (appS (.sl 2) (tupE (consL (vE 5) (consL (frE (callB (sh1 intD) (consL (op2 addD (vE 5) (frE (callR 2 m__law_take 0 (consL (vE 3) nilL)))) nilL))) (consL (frE (callB (sh1 intD) (consL (op2 addD (cE (.int 50)) (frE (callR 2 m__law_take 0 (consL (frE (callR 2 m__law_of 0 (consL (frE (lstE (consL (cE (.int 3)) (consL (cE (.int 10)) nilL)))) nilL))) nilL)))) nilL))) nilL))))))
theorem row_step {a b c many wide : Int} (p : Pot a b c) (hc : c < 99990) (hw : wide = 2 ∨ wide = 6 ∨ wide = 30) (rows : List (Int × Int × Int)) (hr : rows.length ≤ 100) (x y : W) (hy : nb (riS (potO a b c) many rows wide x y) 5 = true) :
    ∃ a' c' r, rowB (riS (potO a b c) many rows wide x y) = some (.nx (riS (potO a' b c') many (rows ++ [r]) wide x (W.w false (.sh (.int r.1))))) ∧ RowOk r ∧ 0 ≤ a' ∧ c ≤ c' ∧ c' ≤ c + 4 := by
  obtain ⟨r1, a1, c1, e1, x0, x1, q0, q1, q2⟩ := p_take p (u := 9) (by decide) (by decide)
  have p1 : Pot a1 b c1 := ⟨q0, p.b0, p.b1, by have := p.c0; omega, by omega⟩
  obtain ⟨r2, a2, c2, e2, y0, y1, s0, s1, s2⟩ := p_take p1 (u := wide) (by omega) (by omega)
  have p2 : Pot a2 b c2 := ⟨s0, p.b0, p.b1, by have := p.c0; omega, by omega⟩
  obtain ⟨w, a3, c3, e3, hw3, t0, t1, t2⟩ := p_of p2 [3, 10] (by simp) (by simp)
  have p3 : Pot a3 b c3 := ⟨t0, p.b0, p.b1, by have := p.c0; omega, by omega⟩
  simp only [List.mem_cons, List.not_mem_nil, or_false] at hw3
  obtain ⟨r4, a4, c4, e4, z0, z1, u0, u1, u2⟩ := p_take p3 (u := w) (by omega) (by omega)
  refine ⟨a4, c4, (r1 - 4, r1 - 4 + r2, 50 + r4), ?_, ?_, u0, by omega, by omega⟩
  · have hs : small (rows.map rowD).length = true := decide_eq_true (by rw [List.length_map]; omega)
    have k1 : asgS 5 (shE (frE (callB (sh1 intD) (consL (op2 subI (frE (callR 2 m__law_take 0 (consL (cE (.int 9)) nilL))) (cE (.int 4))) nilL)))) (riS (potO a b c) many rows wide x y) = some (.nx (riS (potO a1 b c1) many rows wide x (W.w false (.sh (.int (r1 - 4)))))) := by
      have hy2 : nb (riS (potO a1 b c1) many rows wide x y) 5 = true := hy
      simp only [ev_asg, ev_sh, ev_fr, ev_callB, ev_cons, ev_op2, callR, has, List.getElem?_cons_zero, if_true, ev_c, ev_nil, Option.map_some, List.length_cons, List.length_nil, e1, frz_sh, ii_sub, ev_sh1, int_ok', List.set_cons_zero]
      rw [if_pos hy2]
      rfl
    have k2 : tupE (consL (vE 5) (consL (frE (callB (sh1 intD) (consL (op2 addD (vE 5) (frE (callR 2 m__law_take 0 (consL (vE 3) nilL)))) nilL))) (consL (frE (callB (sh1 intD) (consL (op2 addD (cE (.int 50)) (frE (callR 2 m__law_take 0 (consL (frE (callR 2 m__law_of 0 (consL (frE (lstE (consL (cE (.int 3)) (consL (cE (.int 10)) nilL)))) nilL))) nilL)))) nilL))) nilL))) (riS (potO a1 b c1) many rows wide x (W.w false (.sh (.int (r1 - 4))))) =
        some (rowD (r1 - 4, r1 - 4 + r2, 50 + r4), riS (potO a4 b c4) many rows wide x (W.w false (.sh (.int (r1 - 4))))) := by
      have e3' : m__law_of (potO a2 b c2) [.lst [.int 3, .int 10]] = some (.sh (.int w), potO a3 b c3) := e3
      simp [callR, has, e2, e3', e4, int_ok', small, rowD]
    unfold rowB
    simp only [ev_seq, k1, ev_app, ev_pgS, ev_gSl, List.getElem?_cons_succ, List.getElem?_cons_zero, k2]
    rw [if_pos hs]
    simp
  · refine ⟨?_, ?_, ?_, ?_, ?_, ?_⟩ <;> dsimp only <;> omega
theorem rows_loop {b many wide : Int} (hw : wide = 2 ∨ wide = 6 ∨ wide = 30) : ∀ (ds : List D) (a c : Int) (rows : List (Int × Int × Int)) (x y : W), Pot a b c → c + 4 * (ds.length : Int) < 99990 → rows.length + ds.length ≤ 100 → (∀ r ∈ rows, RowOk r) → (∀ o rows x, nb (riS o many rows wide x y) 5 = true) → nb [x] 0 = true → nb [y] 0 = true →
    ∃ a' c' rows' x' y', forR (bN 4) rowB ds (riS (potO a b c) many rows wide x y) = some (.nx (riS (potO a' b c') many rows' wide x' y')) ∧ rows'.length = rows.length + ds.length ∧ (∀ r ∈ rows', RowOk r) ∧ 0 ≤ a' ∧ c ≤ c' ∧ c' ≤ c + 4 * (ds.length : Int) ∧ nb [x'] 0 = true ∧ nb [y'] 0 = true
  | [], a, c, rows, x, y, p, _, _, hr, _, hx, hy => ⟨a, c, rows, x, y, rfl, rfl, hr, p.a0, Int.le_refl _, by simp, hx, hy⟩
  | d :: ds, a, c, rows, x, y, p, hc, hl, hr, hy, hx0, hy0 => by
    simp only [List.length_cons] at hc hl ⊢
    obtain ⟨a1, c1, r, e1, ok, q0, q1, q2⟩ := row_step (many := many) p (by omega) hw rows (by omega) (W.w false (.sh d)) y (hy _ _ _)
    have p1 : Pot a1 b c1 := ⟨q0, p.b0, p.b1, by have := p.c0; omega, by omega⟩
    obtain ⟨a2, c2, rows2, x2, y2, e2, l2, ok2, s0, s1, s2, s3, s4⟩ := rows_loop hw ds a1 c1 (rows ++ [r]) (W.w false (.sh d)) (W.w false (.sh (.int r.1))) p1 (by omega) (by simp only [List.length_append, List.length_singleton]; omega)
      (fun z hz => by
        rcases List.mem_append.mp hz with h | h
        · exact hr z h
        · rw [List.mem_singleton.mp h]; exact ok) (fun _ _ _ => rfl) rfl rfl
    refine ⟨a2, c2, rows2, x2, y2, ?_, by rw [l2, List.length_append, List.length_singleton]; omega, ok2, s0, by omega, by omega, s3, s4⟩
    unfold forR
    show (match rowB (riS (potO a b c) many rows wide (W.w false (.sh d)) y) with | none => none | some (.nx ρ2) => _ | some (.ct ρ2) => _ | some (.bk ρ2) => _ | some (.rt o ρ2) => _) = _
    rw [e1]
    exact e2
end Hk98
/-! text Q14 -/
set_option linter.all false
set_option maxRecDepth 100000
set_option maxHeartbeats 1000000
namespace Hk98
open PySem L2 Dl TL Mi
def townT (i : Nat) (r : Int × Int × Int) : Str := (((((("town t" : Str) ++ I (i : Nat)) ++ (" " : Str)) ++ I r.1) ++ (" " : Str)) ++ I r.2.1)
def deedT (i : Nat) (r : Int × Int × Int) : Str := (((((("deed d" : Str) ++ I (i : Nat)) ++ (" t" : Str)) ++ I (i : Nat)) ++ (" " : Str)) ++ I r.2.2)
def letT (i : Nat) : Str := ((((("letter d" : Str) ++ I (i : Nat)) ++ (" d" : Str)) ++ I ((i : Int) + 1)) ++ (" 0 0" : Str))
theorem town_add {ρ : List W} {i : Nat} {r : Int × Int × Int} (ok : RowOk r) (hi : i < 1000) (h2 : ρ[2]? = some (W.w false (.sh (.int (i : Nat))))) (h3 : ρ[3]? = some (W.w false (.sh (.int r.1)))) (h4 : ρ[4]? = some (W.w false (.sh (.int r.2.1)))) :
    op2 addD (op2 addD (op2 addD (op2 addD (op2 addD (cE (.str "town t")) (frE (callB (sh1 strD) (consL (vE 2) nilL)))) (cE (.str " "))) (frE (callB (sh1 strD) (consL (vE 3) nilL)))) (cE (.str " "))) (frE (callB (sh1 strD) (consL (vE 4) nilL))) ρ = some (.str (townT i r), ρ) := by
  obtain ⟨o1, o2, o3, o4, o5, o6⟩ := ok
  have n1 : ((i : Nat) : Int).natAbs < 10 ^ 6 := by omega
  have n2 : r.1.natAbs < 10 ^ 6 := by omega
  have n3 : r.2.1.natAbs < 10 ^ 6 := by omega
  have l1 : (I (i : Nat)).length ≤ 7 := len_int n1
  have l2 : (I r.1).length ≤ 7 := len_int n2
  have l3 : (I r.2.1).length ≤ 7 := len_int n3
  have z1 : ("town t" : Str).length = 6 := by decide +kernel
  have z2 : (" " : Str).length = 1 := by decide +kernel
  have a1 : addD (.str "town t") (.str (I (i : Nat))) = some (.str (("town t" : Str) ++ I (i : Nat))) := add_str (by omega)
  have a2 : addD (.str (("town t" : Str) ++ I (i : Nat))) (.str " ") = some (.str ((("town t" : Str) ++ I (i : Nat)) ++ (" " : Str))) := add_str (by simp only [len_app]; omega)
  have a3 : addD (.str ((("town t" : Str) ++ I (i : Nat)) ++ (" " : Str))) (.str (I r.1)) = some (.str (((("town t" : Str) ++ I (i : Nat)) ++ (" " : Str)) ++ I r.1)) := add_str (by simp only [len_app]; omega)
  have a4 : addD (.str (((("town t" : Str) ++ I (i : Nat)) ++ (" " : Str)) ++ I r.1)) (.str " ") = some (.str ((((("town t" : Str) ++ I (i : Nat)) ++ (" " : Str)) ++ I r.1) ++ (" " : Str))) := add_str (by simp only [len_app]; omega)
  have a5 : addD (.str ((((("town t" : Str) ++ I (i : Nat)) ++ (" " : Str)) ++ I r.1) ++ (" " : Str))) (.str (I r.2.1)) = some (.str (townT i r)) := add_str (by simp only [len_app]; omega)
  simp only [ev_op2, ev_c, ev_fr, ev_callB, ev_cons, ev_v, ev_nil, h2, h3, h4, Option.map_some, ev_sh1, strD_int n1, strD_int n2, strD_int n3, frz_sh, a1, a2, a3, a4, a5]
theorem deed_add {ρ : List W} {i : Nat} {r : Int × Int × Int} (ok : RowOk r) (hi : i < 1000) (h2 : ρ[2]? = some (W.w false (.sh (.int (i : Nat))))) (h6 : ρ[6]? = some (W.w false (.sh (rowD r)))) :
    op2 addD (op2 addD (op2 addD (op2 addD (op2 addD (cE (.str "deed d")) (frE (callB (sh1 strD) (consL (vE 2) nilL)))) (cE (.str " t"))) (frE (callB (sh1 strD) (consL (vE 2) nilL)))) (cE (.str " "))) (frE (callB (sh1 strD) (consL (op2 subD (vE 6) (cE (.int 2))) nilL))) ρ = some (.str (deedT i r), ρ) := by
  obtain ⟨o1, o2, o3, o4, o5, o6⟩ := ok
  have n1 : ((i : Nat) : Int).natAbs < 10 ^ 6 := by omega
  have n2 : r.2.2.natAbs < 10 ^ 6 := by omega
  have l1 : (I (i : Nat)).length ≤ 7 := len_int n1
  have l2 : (I r.2.2).length ≤ 7 := len_int n2
  have z1 : ("deed d" : Str).length = 6 := by decide +kernel
  have z2 : (" " : Str).length = 1 := by decide +kernel
  have z3 : (" t" : Str).length = 2 := by decide +kernel
  have s2 : subD (rowD r) (.int 2) = some (.int r.2.2) := subD_tup (atI_nat (n := 2) rfl rfl)
  have a1 : addD (.str "deed d") (.str (I (i : Nat))) = some (.str (("deed d" : Str) ++ I (i : Nat))) := add_str (by omega)
  have a2 : addD (.str (("deed d" : Str) ++ I (i : Nat))) (.str " t") = some (.str ((("deed d" : Str) ++ I (i : Nat)) ++ (" t" : Str))) := add_str (by simp only [len_app]; omega)
  have a3 : addD (.str ((("deed d" : Str) ++ I (i : Nat)) ++ (" t" : Str))) (.str (I (i : Nat))) = some (.str (((("deed d" : Str) ++ I (i : Nat)) ++ (" t" : Str)) ++ I (i : Nat))) := add_str (by simp only [len_app]; omega)
  have a4 : addD (.str (((("deed d" : Str) ++ I (i : Nat)) ++ (" t" : Str)) ++ I (i : Nat))) (.str " ") = some (.str ((((("deed d" : Str) ++ I (i : Nat)) ++ (" t" : Str)) ++ I (i : Nat)) ++ (" " : Str))) := add_str (by simp only [len_app]; omega)
  have a5 : addD (.str ((((("deed d" : Str) ++ I (i : Nat)) ++ (" t" : Str)) ++ I (i : Nat)) ++ (" " : Str))) (.str (I r.2.2)) = some (.str (deedT i r)) := add_str (by simp only [len_app]; omega)
  simp only [ev_op2, ev_c, ev_fr, ev_callB, ev_cons, ev_v, ev_nil, h2, h6, Option.map_some, ev_sh1, s2, strD_int n1, strD_int n2, frz_sh, a1, a2, a3, a4, a5]
theorem let_add {ρ : List W} {i : Nat} (hi : i < 1000) (h2 : ρ[2]? = some (W.w false (.sh (.int (i : Nat))))) :
    op2 addD (op2 addD (op2 addD (op2 addD (cE (.str "letter d")) (frE (callB (sh1 strD) (consL (vE 2) nilL)))) (cE (.str " d"))) (frE (callB (sh1 strD) (consL (op2 addD (vE 2) (cE (.int 1))) nilL)))) (cE (.str " 0 0")) ρ = some (.str (letT i), ρ) := by
  have n1 : ((i : Nat) : Int).natAbs < 10 ^ 6 := by omega
  have n2 : ((i : Int) + 1).natAbs < 10 ^ 6 := by omega
  have l1 : (I (i : Nat)).length ≤ 7 := len_int n1
  have l2 : (I ((i : Int) + 1)).length ≤ 7 := len_int n2
  have z1 : ("letter d" : Str).length = 8 := by decide +kernel
  have z2 : (" d" : Str).length = 2 := by decide +kernel
  have z3 : (" 0 0" : Str).length = 4 := by decide +kernel
  have a1 : addD (.str "letter d") (.str (I (i : Nat))) = some (.str (("letter d" : Str) ++ I (i : Nat))) := add_str (by omega)
  have a2 : addD (.str (("letter d" : Str) ++ I (i : Nat))) (.str " d") = some (.str ((("letter d" : Str) ++ I (i : Nat)) ++ (" d" : Str))) := add_str (by simp only [len_app]; omega)
  have a3 : addD (.str ((("letter d" : Str) ++ I (i : Nat)) ++ (" d" : Str))) (.str (I ((i : Int) + 1))) = some (.str (((("letter d" : Str) ++ I (i : Nat)) ++ (" d" : Str)) ++ I ((i : Int) + 1))) := add_str (by simp only [len_app]; omega)
  have a4 : addD (.str (((("letter d" : Str) ++ I (i : Nat)) ++ (" d" : Str)) ++ I ((i : Int) + 1))) (.str " 0 0") = some (.str (letT i)) := add_str (by simp only [len_app]; omega)
  simp only [ev_op2, ev_c, ev_fr, ev_callB, ev_cons, ev_v, ev_nil, h2, Option.map_some, ev_sh1, ii_add, strD_int n1, strD_int n2, frz_sh, a1, a2, a3, a4]
end Hk98
/-! text Q15 -/
set_option linter.all false
set_option maxRecDepth 100000
set_option maxHeartbeats 1000000
namespace Hk98
open PySem L2 Dl TL Mi
def linesT (rows : List (Int × Int × Int)) : List Str := (rows.zipIdx.map fun p => townT p.2 p.1) ++ (rows.zipIdx.map fun p => deedT p.2 p.1) ++ (List.range (rows.length - 1)).map letT
def textT (rows : List (Int × Int × Int)) : Str := Txt.join "\n" (linesT rows)
theorem line_len {rows : List (Int × Int × Int)} (ok : ∀ r ∈ rows, RowOk r) (hn : rows.length ≤ 100) : ∀ x ∈ linesT rows, x.length ≤ 60 := by
  intro x hx
  have z1 : ("town t" : Str).length = 6 := by decide +kernel
  have z2 : (" " : Str).length = 1 := by decide +kernel
  have z3 : ("deed d" : Str).length = 6 := by decide +kernel
  have z4 : (" t" : Str).length = 2 := by decide +kernel
  have z5 : ("letter d" : Str).length = 8 := by decide +kernel
  have z6 : (" d" : Str).length = 2 := by decide +kernel
  have z7 : (" 0 0" : Str).length = 4 := by decide +kernel
  have idx : ∀ p ∈ rows.zipIdx, RowOk p.1 ∧ p.2 < 100 := fun p hp => by
    have h1 := List.fst_mem_of_mem_zipIdx hp
    have h2 := List.mem_zipIdx_iff_getElem?.mp hp
    exact ⟨ok _ h1, by have := (List.getElem?_eq_some_iff.mp h2).1; omega⟩
  unfold linesT at hx
  rcases List.mem_append.mp hx with hx | hx
  · rcases List.mem_append.mp hx with hx | hx
    · obtain ⟨p, hp, rfl⟩ := List.mem_map.mp hx
      obtain ⟨⟨o1, o2, o3, o4, o5, o6⟩, hi⟩ := idx p hp
      have l1 : (I (p.2 : Nat)).length ≤ 7 := len_int (by omega)
      have l2 : (I p.1.1).length ≤ 7 := len_int (by omega)
      have l3 : (I p.1.2.1).length ≤ 7 := len_int (by omega)
      unfold townT
      simp only [len_app]
      omega
    · obtain ⟨p, hp, rfl⟩ := List.mem_map.mp hx
      obtain ⟨⟨o1, o2, o3, o4, o5, o6⟩, hi⟩ := idx p hp
      have l1 : (I (p.2 : Nat)).length ≤ 7 := len_int (by omega)
      have l2 : (I p.1.2.2).length ≤ 7 := len_int (by omega)
      unfold deedT
      simp only [len_app]
      omega
  · obtain ⟨i, hi, rfl⟩ := List.mem_map.mp hx
    have := List.mem_range.mp hi
    have l1 : (I (i : Nat)).length ≤ 7 := len_int (by omega)
    have l2 : (I ((i : Int) + 1)).length ≤ 7 := len_int (by omega)
    unfold letT
    simp only [len_app]
    omega
end Hk98
/-! text Q16 -/
set_option linter.all false
set_option maxRecDepth 100000
set_option maxHeartbeats 1000000
namespace Hk98
open PySem L2 Dl TL Mi
abbrev txS (rows : List (Int × Int × Int)) (ls : List D) (x : W) : List W := [W.w false (.sh (.lst (rows.map rowD))), W.w false (.ol ls), x, W.un, W.un, W.un, W.un]
theorem p_text (rows : List (Int × Int × Int)) (ok : ∀ r ∈ rows, RowOk r) (h1 : 1 ≤ rows.length) (hn : rows.length ≤ 100) : m__law_text [.lst (rows.map rowD)] = some (.sh (.str (textT rows))) := by
  have idx : ∀ p ∈ rows.zipIdx, RowOk p.1 ∧ p.2 < 1000 := fun p hp => by
    have h1 := List.fst_mem_of_mem_zipIdx hp
    have h2 := List.mem_zipIdx_iff_getElem?.mp hp
    exact ⟨ok _ h1, by have := (List.getElem?_eq_some_iff.mp h2).1; omega⟩
  have s1 : small rows.zipIdx.length = true := decide_eq_true (by rw [List.length_zipIdx]; omega)
  have en : enumD [.lst (rows.map rowD)] = some (rows.zipIdx.map fun p => .tup [.int (p.2 : Nat), rowD p.1]) := by
    simp [enumD, pairs_zip]
  unfold m__law_text fnP g__law_text
  have e1 : lcE [2, 3, 4, 5] (itL enumD (consL (vE 0) nilL)) (bT 2 (bCons (bN 2) (bCons (bT 3 (bCons (bN 3) (bCons (bN 4) (bCons (bN 5) bNil)))) bNil))) yesB (op2 addD (op2 addD (op2 addD (op2 addD (op2 addD (cE (.str "town t")) (frE (callB (sh1 strD) (consL (vE 2) nilL)))) (cE (.str " "))) (frE (callB (sh1 strD) (consL (vE 3) nilL)))) (cE (.str " "))) (frE (callB (sh1 strD) (consL (vE 4) nilL))))
      [W.w false (.sh (.lst (rows.map rowD))), W.un, W.un, W.un, W.un, W.un, W.un] = some (.ol (rows.zipIdx.map fun p => D.str (townT p.2 p.1)), [W.w false (.sh (.lst (rows.map rowD))), W.un, W.un, W.un, W.un, W.un, W.un]) := by
    refine lcE_map (xs := rows.zipIdx) (enc := fun p => .tup [.int (p.2 : Nat), rowD p.1]) (F := fun p => D.str (townT p.2 p.1)) (by simp [en]) s1 fun p hp => ?_
    obtain ⟨o, hi⟩ := idx p hp
    exact ⟨[W.w false (.sh (.lst (rows.map rowD))), W.un, W.w false (.sh (.int (p.2 : Nat))), W.w false (.sh (.int p.1.1)), W.w false (.sh (.int p.1.2.1)), W.w false (.sh (.int p.1.2.2)), W.un], _, rfl, town_add o hi rfl rfl rfl, rfl⟩
  have e2 : lcE [2, 6] (itL enumD (consL (vE 0) nilL)) (bT 2 (bCons (bN 2) (bCons (bN 6) bNil))) yesB (op2 addD (op2 addD (op2 addD (op2 addD (op2 addD (cE (.str "deed d")) (frE (callB (sh1 strD) (consL (vE 2) nilL)))) (cE (.str " t"))) (frE (callB (sh1 strD) (consL (vE 2) nilL)))) (cE (.str " "))) (frE (callB (sh1 strD) (consL (op2 subD (vE 6) (cE (.int 2))) nilL))))
      (txS rows (rows.zipIdx.map fun p => D.str (townT p.2 p.1)) W.un) = some (.ol (rows.zipIdx.map fun p => D.str (deedT p.2 p.1)), txS rows (rows.zipIdx.map fun p => D.str (townT p.2 p.1)) W.un) := by
    refine lcE_map (xs := rows.zipIdx) (enc := fun p => .tup [.int (p.2 : Nat), rowD p.1]) (F := fun p => D.str (deedT p.2 p.1)) (by simp [en]) s1 fun p hp => ?_
    obtain ⟨o, hi⟩ := idx p hp
    generalize (rows.zipIdx.map fun p => D.str (townT p.2 p.1)) = tl0
    refine ⟨[W.w false (.sh (.lst (rows.map rowD))), W.w false (.ol tl0), W.w false (.sh (.int (p.2 : Nat))), W.un, W.un, W.un, W.w false (.sh (rowD p.1))], [W.w false (.sh (.lst (rows.map rowD))), W.w false (.ol tl0), W.w false (.sh (.int (p.2 : Nat))), W.un, W.un, W.un, W.w false (.sh (rowD p.1))], by simp [wipeW], deed_add o hi rfl rfl, by simp [wipeW]⟩
  generalize ht : (rows.zipIdx.map fun p => D.str (townT p.2 p.1)) = tl0 at e1 e2
  generalize hd : (rows.zipIdx.map fun p => D.str (deedT p.2 p.1)) = dl0 at e2
  have lt : tl0.length = rows.length := by rw [← ht, List.length_map, List.length_zipIdx]
  have ld : dl0.length = rows.length := by rw [← hd, List.length_map, List.length_zipIdx]
  have key := forR_inv (enc := fun i : Nat => D.int (i : Nat)) (st := fun s : List D × W => txS rows s.1 s.2) (b := bN 2) (body := appS (.sl 1) (op2 addD (op2 addD (op2 addD (op2 addD (cE (.str "letter d")) (frE (callB (sh1 strD) (consL (vE 2) nilL)))) (cE (.str " d"))) (frE (callB (sh1 strD) (consL (op2 addD (vE 2) (cE (.int 1))) nilL)))) (cE (.str " 0 0"))))
    (f := fun s i => (s.1 ++ [D.str (letT i)], W.w false (.sh (.int (i : Nat))))) (P := fun xs s => s.1.length + xs.length ≤ 400 ∧ ∀ i ∈ xs, i < 1000)
    (fun i xs s p => by
      obtain ⟨p1, p2⟩ := p
      simp only [List.length_cons] at p1
      refine ⟨⟨txS rows s.1 (W.w false (.sh (.int (i : Nat)))), rfl, ?_⟩, by simp only [List.length_append, List.length_singleton]; omega, fun j hj => p2 j (List.mem_cons_of_mem _ hj)⟩
      have e := let_add (ρ := txS rows s.1 (W.w false (.sh (.int (i : Nat))))) (p2 i List.mem_cons_self) rfl
      have hs : small s.1.length = true := decide_eq_true (by omega)
      rw [ev_app, e]
      show (if small s.1.length = true then some (Res.nx (txS rows (s.1 ++ [D.str (letT i)]) (W.w false (.sh (.int (i : Nat)))))) else none) = _
      rw [if_pos hs]) (List.range (rows.length - 1)) (tl0 ++ dl0, W.un) ⟨by simp only [List.length_append, List.length_range]; omega, fun i hi => by have := List.mem_range.mp hi; omega⟩
  have fst : ∀ (xs : List Nat) (s : List D × W), (xs.foldl (fun s i => (s.1 ++ [D.str (letT i)], W.w false (.sh (.int (i : Nat))))) s).1 = s.1 ++ xs.map fun i => D.str (letT i) := by
    intro xs
    induction xs with
    | nil => intro s; simp
    | cons x xs ih => intro s; rw [List.foldl_cons, ih]; simp
  have f1 := fst (List.range (rows.length - 1)) (tl0 ++ dl0, W.un)
  generalize (List.range (rows.length - 1)).foldl (fun s i => (s.1 ++ [D.str (letT i)], W.w false (.sh (.int (i : Nat))))) ((tl0 ++ dl0, W.un) : List D × W) = z at key f1
  obtain ⟨z1, z2⟩ := z
  dsimp only at f1
  have all : z1 = (linesT rows).map D.str := by
    rw [f1, ← ht, ← hd]
    unfold linesT
    rw [List.map_append, List.map_append, List.map_map, List.map_map, List.map_map]
    rfl
  have k2 : forS (itL rng1D (consL (op2 subI (frE (callB (sh1 lenD) (consL (vE 0) nilL))) (cE (.int 1))) nilL)) (bN 2) (appS (.sl 1) (op2 addD (op2 addD (op2 addD (op2 addD (cE (.str "letter d")) (frE (callB (sh1 strD) (consL (vE 2) nilL)))) (cE (.str " d"))) (frE (callB (sh1 strD) (consL (op2 addD (vE 2) (cE (.int 1))) nilL)))) (cE (.str " 0 0")))) (txS rows (tl0 ++ dl0) W.un) = some (.nx (txS rows z1 z2)) := by
    rw [← key]
    have e6 : lenD (.lst (rows.map rowD)) = some (.int (rows.length : Nat)) := by unfold lenD; simp
    have e7 : rng1D [.int ((rows.length : Int) - 1)] = some ((List.range (rows.length - 1)).map fun i => D.int (i : Nat)) := by
      unfold rng1D
      dsimp only
      rw [if_pos (by omega)]
      unfold rangeD
      rw [show ((rows.length : Int) - 1).toNat = rows.length - 1 from by omega]
      simp
    simp only [ev_for, ev_itL, ev_cons, ev_op2, ev_fr, ev_callB, ev_v, ev_nil, List.getElem?_cons_zero, Option.map_some, ev_sh1, e6, frz_sh, ev_c, ii_sub, e7]
  have e8 : asgS 1 (lcE [2, 3, 4, 5] (itL enumD (consL (vE 0) nilL)) (bT 2 (bCons (bN 2) (bCons (bT 3 (bCons (bN 3) (bCons (bN 4) (bCons (bN 5) bNil)))) bNil))) yesB (op2 addD (op2 addD (op2 addD (op2 addD (op2 addD (cE (.str "town t")) (frE (callB (sh1 strD) (consL (vE 2) nilL)))) (cE (.str " "))) (frE (callB (sh1 strD) (consL (vE 3) nilL)))) (cE (.str " "))) (frE (callB (sh1 strD) (consL (vE 4) nilL)))))
      [W.w false (.sh (.lst (rows.map rowD))), W.un, W.un, W.un, W.un, W.un, W.un] = some (.nx (txS rows tl0 W.un)) := by
    rw [ev_asg, e1]
    rfl
  have e9 : extS (.sl 1) (frE (lcE [2, 6] (itL enumD (consL (vE 0) nilL)) (bT 2 (bCons (bN 2) (bCons (bN 6) bNil))) yesB (op2 addD (op2 addD (op2 addD (op2 addD (op2 addD (cE (.str "deed d")) (frE (callB (sh1 strD) (consL (vE 2) nilL)))) (cE (.str " t"))) (frE (callB (sh1 strD) (consL (vE 2) nilL)))) (cE (.str " "))) (frE (callB (sh1 strD) (consL (op2 subD (vE 6) (cE (.int 2))) nilL))))))
      (txS rows tl0 W.un) = some (.nx (txS rows (tl0 ++ dl0) W.un)) := by
    rw [ev_ext, ev_fr, e2]
    show (if small (tl0.length + dl0.length) = true then some (Res.nx (txS rows (tl0 ++ dl0) W.un)) else none) = _
    rw [if_pos (show small (tl0.length + dl0.length) = true from decide_eq_true (by omega))]
  have e10 : joinD (.str "\n") (.lst z1) = some (.sh (.str (textT rows))) := by
    have q := sum_le (line_len ok hn)
    have ln : (linesT rows).length ≤ 300 := by
      unfold linesT
      simp only [List.length_append, List.length_map, List.length_zipIdx, List.length_range]
      omega
    rw [all]
    unfold joinD
    dsimp only
    rw [strs_of]
    dsimp only
    have z : ("\n" : Str).length = 1 := by decide +kernel
    rw [if_pos (show small _ = true from decide_eq_true (by rw [z]; omega))]
    rfl
  show (match (match asgS 1 _ [W.w false (.sh (.lst (rows.map rowD))), W.un, W.un, W.un, W.un, W.un, W.un] with | some (.nx ρ1) => (match extS _ _ ρ1 with | some (.nx ρ2) => (match forS _ _ _ ρ2 with | some (.nx ρ3) => retS (m1E joinD (cE (.str "\n")) (vF 1)) ρ3 | r => r) | r => r) | r => r) with | some (.rt o ρ) => some o | some (.nx ρ) => some (O.sh D.non) | x => none) = _
  rw [e8]
  dsimp only
  rw [e9]
  dsimp only
  rw [k2]
  show (match Option.map (fun p : O × List W => Res.rt p.1 p.2) (Option.map (fun o => (o, _)) (joinD (.str "\n") (.lst z1))) with | some (.rt o ρ) => some o | some (.nx ρ) => some (O.sh D.non) | x => none) = _
  rw [e10]
  rfl
end Hk98
/-! text Q17 -/
set_option linter.all false
set_option maxRecDepth 100000
set_option maxHeartbeats 1000000
namespace Hk98
open PySem L2 Dl TL Mi
theorem name_t : ∀ i : Nat, i < 8 → m_is_name [.str (("t" : Str) ++ I (i : Nat))] = some (.sh (.bl true)) := by
  intro i hi
  apply yes_is
  have : i = 0 ∨ i = 1 ∨ i = 2 ∨ i = 3 ∨ i = 4 ∨ i = 5 ∨ i = 6 ∨ i = 7 := by omega
  rcases this with h | h | h | h | h | h | h | h <;> subst h <;> decide +kernel
theorem name_d : ∀ i : Nat, i < 8 → m_is_name [.str (("d" : Str) ++ I (i : Nat))] = some (.sh (.bl true)) := by
  intro i hi
  apply yes_is
  have : i = 0 ∨ i = 1 ∨ i = 2 ∨ i = 3 ∨ i = 4 ∨ i = 5 ∨ i = 6 ∨ i = 7 := by omega
  rcases this with h | h | h | h | h | h | h | h <;> subst h <;> decide +kernel
theorem town_nl (i : Nat) (r : Int × Int × Int) : 10 ∉ tl (townT i r) := by
  have z1 : 10 ∉ tl ("town t" : Str) := by decide +kernel
  have z2 : 10 ∉ tl (" " : Str) := by decide +kernel
  have f : ∀ k : Int, 10 ∉ tl (I k) := fun k => int_free (by decide)
  unfold townT
  simp only [tl_app, List.mem_append, not_or]
  exact ⟨⟨⟨⟨⟨z1, f _⟩, z2⟩, f _⟩, z2⟩, f _⟩
theorem deed_nl (i : Nat) (r : Int × Int × Int) : 10 ∉ tl (deedT i r) := by
  have z1 : 10 ∉ tl ("deed d" : Str) := by decide +kernel
  have z2 : 10 ∉ tl (" " : Str) := by decide +kernel
  have z3 : 10 ∉ tl (" t" : Str) := by decide +kernel
  have f : ∀ k : Int, 10 ∉ tl (I k) := fun k => int_free (by decide)
  unfold deedT
  simp only [tl_app, List.mem_append, not_or]
  exact ⟨⟨⟨⟨⟨z1, f _⟩, z3⟩, f _⟩, z2⟩, f _⟩
theorem let_nl (i : Nat) : 10 ∉ tl (letT i) := by
  have z1 : 10 ∉ tl ("letter d" : Str) := by decide +kernel
  have z2 : 10 ∉ tl (" d" : Str) := by decide +kernel
  have z3 : 10 ∉ tl (" 0 0" : Str) := by decide +kernel
  have f : ∀ k : Int, 10 ∉ tl (I k) := fun k => int_free (by decide)
  unfold letT
  simp only [tl_app, List.mem_append, not_or]
  exact ⟨⟨⟨⟨z1, f _⟩, z2⟩, f _⟩, z3⟩
theorem lines_back (rows : List (Int × Int × Int)) (h : 1 ≤ rows.length) : Txt.split (textT rows) "\n" = linesT rows := by
  have ey : tl ("\n" : Str) = 10 :: [] := by decide +kernel
  have hne : linesT rows ≠ [] := by
    cases rows with
    | nil => simp at h
    | cons r rs => simp [linesT]
  refine TL.split_join ey (by decide +kernel) hne fun p hp => ?_
  unfold linesT at hp
  rcases List.mem_append.mp hp with hp | hp
  · rcases List.mem_append.mp hp with hp | hp
    · obtain ⟨q, _, rfl⟩ := List.mem_map.mp hp; exact town_nl _ _
    · obtain ⟨q, _, rfl⟩ := List.mem_map.mp hp; exact deed_nl _ _
  · obtain ⟨q, _, rfl⟩ := List.mem_map.mp hp; exact let_nl _

theorem town_words (i : Nat) (r : Int × Int × Int) : Txt.split (townT i r) " " = [("town" : Str), ("t" : Str) ++ I (i : Nat), I r.1, I r.2.1] := by
  have z1 : 32 ∉ tl ("town" : Str) := by decide +kernel
  have z2 : 32 ∉ tl ("t" : Str) := by decide +kernel
  have f : ∀ k : Int, 32 ∉ tl (I k) := fun k => int_free (by decide)
  have z : tl ("town t" : Str) = tl ("town" : Str) ++ (32 :: tl ("t" : Str)) := by decide +kernel
  refine words_back (by simp) (fun p hp => ?_) ?_
  · simp only [List.mem_cons, List.not_mem_nil, or_false] at hp
    rcases hp with rfl | rfl | rfl | rfl
    · exact z1
    · rw [tl_app]; simp only [List.mem_append, not_or]; exact ⟨z2, f _⟩
    · exact f _
    · exact f _
  · unfold townT
    simp only [tl_app, z, sp_tl, List.map_cons, List.map_nil, joinL, List.append_assoc, List.cons_append, List.nil_append]
theorem deed_words (i : Nat) (r : Int × Int × Int) : Txt.split (deedT i r) " " = [("deed" : Str), ("d" : Str) ++ I (i : Nat), ("t" : Str) ++ I (i : Nat), I r.2.2] := by
  have z1 : 32 ∉ tl ("deed" : Str) := by decide +kernel
  have z2 : 32 ∉ tl ("t" : Str) := by decide +kernel
  have z3 : 32 ∉ tl ("d" : Str) := by decide +kernel
  have f : ∀ k : Int, 32 ∉ tl (I k) := fun k => int_free (by decide)
  have z : tl ("deed d" : Str) = tl ("deed" : Str) ++ (32 :: tl ("d" : Str)) := by decide +kernel
  have z' : tl (" t" : Str) = 32 :: tl ("t" : Str) := by decide +kernel
  refine words_back (by simp) (fun p hp => ?_) ?_
  · simp only [List.mem_cons, List.not_mem_nil, or_false] at hp
    rcases hp with rfl | rfl | rfl | rfl
    · exact z1
    · rw [tl_app]; simp only [List.mem_append, not_or]; exact ⟨z3, f _⟩
    · rw [tl_app]; simp only [List.mem_append, not_or]; exact ⟨z2, f _⟩
    · exact f _
  · unfold deedT
    simp only [tl_app, z, z', sp_tl, List.map_cons, List.map_nil, joinL, List.append_assoc, List.cons_append, List.nil_append]
theorem let_words (i : Nat) : Txt.split (letT i) " " = [("letter" : Str), ("d" : Str) ++ I (i : Nat), ("d" : Str) ++ I ((i : Int) + 1), ("0" : Str), ("0" : Str)] := by
  have z1 : 32 ∉ tl ("letter" : Str) := by decide +kernel
  have z3 : 32 ∉ tl ("d" : Str) := by decide +kernel
  have z4 : 32 ∉ tl ("0" : Str) := by decide +kernel
  have f : ∀ k : Int, 32 ∉ tl (I k) := fun k => int_free (by decide)
  have z : tl ("letter d" : Str) = tl ("letter" : Str) ++ (32 :: tl ("d" : Str)) := by decide +kernel
  have z' : tl (" d" : Str) = 32 :: tl ("d" : Str) := by decide +kernel
  have z'' : tl (" 0 0" : Str) = 32 :: (tl ("0" : Str) ++ (32 :: tl ("0" : Str))) := by decide +kernel
  refine words_back (by simp) (fun p hp => ?_) ?_
  · simp only [List.mem_cons, List.not_mem_nil, or_false] at hp
    rcases hp with rfl | rfl | rfl | rfl | rfl
    · exact z1
    · rw [tl_app]; simp only [List.mem_append, not_or]; exact ⟨z3, f _⟩
    · rw [tl_app]; simp only [List.mem_append, not_or]; exact ⟨z3, f _⟩
    · exact z4
    · exact z4
  · unfold letT
    simp only [tl_app, z, z', z'', List.map_cons, List.map_nil, joinL, List.append_assoc, List.cons_append, List.nil_append]
end Hk98
/-! text S10 -/
set_option linter.all false
set_option maxRecDepth 100000
set_option maxHeartbeats 1000000
namespace Mi
open PySem L2 Dl TL
@[simp] theorem nb_nil (i : Nat) : nb [] i = true := rfl
@[simp] theorem nb_un (l : List W) : nb (W.un :: l) 0 = true := rfl
@[simp] theorem nb_w (o : O) (l : List W) : nb (W.w false o :: l) 0 = true := rfl
@[simp] theorem nb_s (x : W) (l : List W) (n : Nat) : nb (x :: l) (n + 1) = nb l n := rfl
@[simp] theorem has_w (b : Bool) (o : O) (l : List W) : has (W.w b o :: l) 0 = true := rfl
@[simp] theorem has_s (x : W) (l : List W) (n : Nat) : has (x :: l) (n + 1) = has l n := rfl
@[simp] theorem ev_ifE {t : BE} {a b : DE} {ρ : List W} : ifE t a b ρ = (match t ρ with | some (true, ρ1) => a ρ1 | some (false, ρ1) => b ρ1 | none => none) := rfl
@[simp] theorem ev_orB {t t' : BE} {ρ : List W} : orB t t' ρ = (match t ρ with | some (true, ρ1) => some (true, ρ1) | some (false, ρ1) => t' ρ1 | none => none) := rfl
@[simp] theorem iteT {α : Type} {a b : α} : (if true = true then a else b) = a := rfl
theorem eqS {neg : Bool} {a b : Str} (ha : PyData.canLay0 (.str a) = true) (hb : PyData.canLay0 (.str b) = true) : eqD neg (.str a) (.str b) = some (.bl (if neg then !(a == b) else (a == b))) := by
  rw [eqD_ok (by unfold okD; exact ha) (by unfold okD; exact hb)]; rfl
theorem lay_of {x : Str} (h : ∀ c ∈ tl x, c < 1114112) : PyData.canLay0 (.str x) = true := by
  show x.cps.all (· < 0x110000) = true
  rw [Array.all_eq_true_iff_forall_mem]
  intro c hc
  exact decide_eq_true (h c (by simpa [tl] using hc))
theorem int_sign {i : Int} {c : Nat} (h : c ∈ tl (I i)) : c = 45 ∨ (48 ≤ c ∧ c ≤ 57) := by
  rw [tl_int] at h
  unfold intL at h
  have k : ∀ c ∈ numL i.natAbs, 48 ≤ c ∧ c ≤ 57 := numL_digits _
  split at h
  · rcases List.mem_cons.mp h with h | h
    · exact .inl h
    · exact .inr (k _ h)
  · exact .inr (k _ h)
theorem int_lay (i : Int) : PyData.canLay0 (.str (I i)) = true := lay_of fun c hc => by
  rcases int_sign hc with h | h <;> omega
theorem numL_len' {n k : Nat} (hk : 0 < k) (h : n < 10 ^ k) : (numL n).length ≤ k := numL_len hk h
theorem int_back {i : Int} (h : i.natAbs < 10 ^ 9) : intText? (I i) = some i := by
  have hl := numL_len (n := i.natAbs) (k := 9) (by decide) h
  by_cases h0 : i < 0
  · have e : tl (I i) = 45 :: numL i.natAbs := by rw [tl_int]; unfold intL; rw [if_pos h0]
    have := intText_neg (x := I i) e (numL_digits _) (numL_ne _) (by rw [← tl_len, e, List.length_cons]; omega)
    rw [this, numL_val]
    congr 1
    omega
  · obtain ⟨n, rfl⟩ : ∃ n : Nat, i = (n : Int) := ⟨i.toNat, by omega⟩
    exact int_num (by simp only [Int.natAbs_natCast] at hl; omega)
theorem tl_cut1 (x : Str) : tl (cutS x none (some 1)) = (tl x).take 1 := by
  show (((x.cps.toList.drop (HT.sIx x.length 0 none)).take (HT.sIx x.length x.length (some 1) - HT.sIx x.length 0 none)).toArray).toList = _
  rw [HT.sIx_none, show (some (1 : Int)) = some ((1 : Nat) : Int) from rfl, HT.sIx_nat]
  simp only [List.drop_zero, Nat.sub_zero]
  have : x.cps.toList.length = x.length := Array.length_toList
  show List.take (min 1 x.length) x.cps.toList = List.take 1 x.cps.toList
  rw [← this]
  cases x.cps.toList <;> simp [List.take]
theorem tl_cutr (x : Str) : tl (cutS x (some 1) none) = (tl x).drop 1 := by
  show (((x.cps.toList.drop (HT.sIx x.length 0 (some 1))).take (HT.sIx x.length x.length none - HT.sIx x.length 0 (some 1))).toArray).toList = _
  rw [HT.sIx_none, show (some (1 : Int)) = some ((1 : Nat) : Int) from rfl, HT.sIx_nat]
  have : x.cps.toList.length = x.length := Array.length_toList
  show List.take (x.length - min 1 x.length) (List.drop (min 1 x.length) x.cps.toList) = List.drop 1 x.cps.toList
  rw [← this]
  cases x.cps.toList <;> simp
theorem all_bl {l : List D} (h : ∀ d ∈ l, d = .bl true) : allD (.lst l) = some (.bl true) := by
  have e : l = List.replicate l.length (D.bl true) := List.eq_replicate_iff.mpr ⟨rfl, h⟩
  rw [e]
  exact all_rep _
theorem inD_sign {neg : Bool} {c : Nat} {z : Str} : inD neg (.str ⟨#[c]⟩) (.str z) = some (.bl (if neg then !decide (c ∈ z.cps.toList) else decide (c ∈ z.cps.toList))) := rfl
def figL : List Nat := [48, 49, 50, 51, 52, 53, 54, 55, 56, 57]
theorem tl_fig : ("0123456789" : Str).cps.toList = figL := by decide +kernel
theorem signs_map (x : Str) : signsD x = (tl x).map fun c => D.str ⟨#[c]⟩ := rfl
theorem beq_str {a b : Str} : (a == b) = decide (a = b) := by
  by_cases h : a = b
  · subst h; simp
  · simp [h]
theorem ne_tl {a b : Str} (h : tl a ≠ tl b) : (a == b) = false := by
  rw [beq_str]
  exact decide_eq_false fun e => h (by rw [e])
theorem tl_dash : tl ("-" : Str) = [45] := by decide +kernel
theorem p_read {i : Int} (h : i.natAbs < 10 ^ 9) : m_read_integer [.str (I i)] = some (.sh (.int i)) := by
  have hl := numL_len (n := i.natAbs) (k := 9) (by decide) h
  have hd : ∀ c ∈ numL i.natAbs, 48 ≤ c ∧ c ≤ 57 := numL_digits _
  have ll : (I i).length ≤ 10 := by
    rw [← tl_len, tl_int]
    unfold intL
    split
    · rw [List.length_cons]; omega
    · omega
  have ss : small (I i).length = true := decide_eq_true (by omega)
  obtain ⟨fg, e1, e2⟩ : ∃ fg : Str, tl fg = numL i.natAbs ∧ ifE (bE (op2 (eqD false) (frE (slE (vE 0) noPa (atPa (cE (.int 1))))) (cE (.str "-")))) (frE (slE (vE 0) (atPa (cE (.int 1))) noPa)) (vE 0) [W.w false (.sh (.str (I i))), W.un, W.un, W.un] = some (.str fg, [W.w false (.sh (.str (I i))), W.un, W.un, W.un]) := by
    by_cases h0 : i < 0
    · have e : tl (I i) = 45 :: numL i.natAbs := by rw [tl_int]; unfold intL; rw [if_pos h0]
      have c1 : cutS (I i) none (some 1) = ("-" : Str) := of_tl (by rw [tl_cut1, e, tl_dash]; rfl)
      refine ⟨cutS (I i) (some 1) none, by rw [tl_cutr, e]; rfl, ?_⟩
      have eq : eqD false (.str ("-" : Str)) (.str ("-" : Str)) = some (.bl true) := by rw [eqS (by decide +kernel) (by decide +kernel)]; simp
      simp [slO, ss, c1, eq]
    · have e : tl (I i) = numL i.natAbs := by rw [tl_int]; unfold intL; rw [if_neg h0]
      refine ⟨I i, e, ?_⟩
      have c2 : tl (cutS (I i) none (some 1)) ≠ tl ("-" : Str) := by
        rw [tl_cut1, e, tl_dash]
        intro z
        have := hd 45 (List.mem_of_mem_take (i := 1) (by rw [z]; exact List.mem_cons_self))
        omega
      have c3 : PyData.canLay0 (.str (cutS (I i) none (some 1))) = true := lay_of fun c hc => by
        rw [tl_cut1] at hc
        rcases int_sign (List.mem_of_mem_take hc) with h | h <;> omega
      have eq : eqD false (.str (cutS (I i) none (some 1))) (.str ("-" : Str)) = some (.bl false) := by rw [eqS c3 (by decide +kernel), ne_tl c2]; rfl
      simp [slO, ss, eq]
  have flen : fg.length ≤ 9 := by rw [← tl_len, e1]; exact hl
  have fs : small fg.length = true := decide_eq_true (by omega)
  have flay : PyData.canLay0 (.str fg) = true := lay_of fun c hc => by rw [e1] at hc; have := hd c hc; omega
  have q1 : eqD false (.str fg) (.str ("" : Str)) = some (.bl false) := by
    rw [eqS flay (by decide +kernel), ne_tl (by rw [e1, show tl ("" : Str) = [] from by decide +kernel]; exact numL_ne _)]; rfl
  have q2 : lcE [2] (itE seqS' (vE 1)) (bN 2) yesB (op2 (inD false) (vE 2) (cE (.str "0123456789"))) [W.w false (.sh (.str (I i))), W.w false (.sh (.str fg)), W.un, W.un] = some (.ol ((tl fg).map fun _ => D.bl true), [W.w false (.sh (.str (I i))), W.w false (.sh (.str fg)), W.un, W.un]) := by
    refine lcE_map (enc := fun c => D.str ⟨#[c]⟩) (by simp [seqS', signs_map]) (decide_eq_true (by rw [tl_len]; omega)) fun c hc => ?_
    have : c ∈ figL := by
      rw [e1] at hc
      have := hd c hc
      simp only [figL, List.mem_cons, List.not_mem_nil, or_false]
      omega
    have k : inD false (.str ⟨#[c]⟩) (.str "0123456789") = some (.bl true) := by rw [inD_sign, tl_fig, decide_eq_true this]; rfl
    exact ⟨[W.w false (.sh (.str (I i))), W.w false (.sh (.str fg)), W.w false (.sh (.str ⟨#[c]⟩)), W.un], [W.w false (.sh (.str (I i))), W.w false (.sh (.str fg)), W.w false (.sh (.str ⟨#[c]⟩)), W.un], rfl, by simp [k], rfl⟩
  have q3 : allD (.lst ((tl fg).map fun _ => D.bl true)) = some (.bl true) := all_bl fun d hd => by
    obtain ⟨_, _, rfl⟩ := List.mem_map.mp hd; rfl
  have q4 : intD (.str (I i)) = some (.int i) := by
    show (if (I i).length ≤ 640 then (intText? (I i)).map D.int else none) = _
    rw [if_pos (by omega), int_back h]; rfl
  have q5 : strD (.int i) = some (.str (I i)) := by
    show (if i.natAbs < 2 ^ 1000 then some (D.str (Str.ofString (toString i))) else none) = _
    rw [if_pos (Nat.lt_of_lt_of_le h (Nat.le_trans (show 10 ^ 9 ≤ 2 ^ 30 by decide) (Nat.pow_le_pow_right (by decide) (by decide))))]
  have q6 : eqD false (.str (I i)) (.str (I i)) = some (.bl true) := by rw [eqS (int_lay i) (int_lay i)]; simp
  have q7 : lenD (.str fg) = some (.int fg.length) := by show (if small fg.length = true then some (D.int fg.length) else none) = _; rw [if_pos fs]
  have q8 : ¬ (9 : Int) < (fg.length : Int) := by omega
  unfold m_read_integer fnP g_read_integer
  simp only [List.map_cons, List.map_nil, List.cons_append, List.nil_append, show (4 - 1 : Nat) = 3 from rfl, show List.replicate 3 W.un = [W.un, W.un, W.un] from rfl]
  simp only [ev_seq, ev_asg, ev_sh, e2, Option.map_some]
  simp only [show ∀ w, nb [W.w false (O.sh (D.str (I i))), W.un, W.un, w] 1 = true from fun _ => rfl, if_true, List.set_cons_succ, List.set_cons_zero]
  simp [q1, q2, q3, q4, q5, q6, q7, q8]
end Mi
/-! text S11 -/
set_option linter.all false
set_option maxRecDepth 100000
set_option maxHeartbeats 1000000
namespace Mi
open PySem L2 Dl TL
def isLet (c : Nat) : Bool := decide (97 ≤ c ∧ c ≤ 122)
def isFig (c : Nat) : Bool := decide (48 ≤ c ∧ c ≤ 57)
/-- the signs of a NAME -/
def nmL : List Nat → Bool
  | [] => false
  | c :: r => isLet c && r.all (fun x => isLet x || isFig x) && decide (r.length ≤ 7)
def Nm (n : Str) : Prop := nmL (tl n) = true
theorem Nm.signs {n : Str} (h : Nm n) : ∀ c ∈ tl n, isLet c = true ∨ isFig c = true := by
  unfold Nm nmL at h
  intro c hc
  split at h
  · cases h
  · rename_i a r e
    rw [e] at hc
    simp only [Bool.and_eq_true, List.all_eq_true, Bool.or_eq_true] at h
    rcases List.mem_cons.mp hc with z | z
    · subst z; exact .inl h.1.1
    · exact h.1.2 c z
theorem Nm.rng {n : Str} (h : Nm n) {c : Nat} (hc : c ∈ tl n) : 48 ≤ c ∧ c ≤ 122 := by
  rcases h.signs c hc with z | z
  · have := of_decide_eq_true z; omega
  · have := of_decide_eq_true z; omega
theorem Nm.lay {n : Str} (h : Nm n) : PyData.canLay0 (.str n) = true := lay_of fun c hc => by have := h.rng hc; omega
theorem Nm.sp {n : Str} (h : Nm n) : 32 ∉ tl n := fun z => by have := h.rng z; omega
theorem Nm.nl {n : Str} (h : Nm n) : 10 ∉ tl n := fun z => by have := h.rng z; omega
theorem Nm.len {n : Str} (h : Nm n) : n.length ≤ 8 := by
  unfold Nm nmL at h
  rw [← tl_len]
  split at h
  · cases h
  · rename_i a r e
    simp only [Bool.and_eq_true, decide_eq_true_eq] at h
    rw [e, List.length_cons]
    omega
theorem Nm.head {n : Str} (h : Nm n) : ∃ c r, tl n = c :: r ∧ isLet c = true := by
  unfold Nm nmL at h
  split at h
  · cases h
  · rename_i a r e
    simp only [Bool.and_eq_true] at h
    exact ⟨a, r, e, h.1.1⟩
theorem Nm.dot {n : Str} (h : Nm n) : n ≠ ("." : Str) := fun z => by
  have e : tl ("." : Str) = [46] := by decide +kernel
  have := h.rng (c := 46) (by rw [z, e]; exact List.mem_cons_self)
  omega
theorem tl_abc : ("abcdefghijklmnopqrstuvwxyz" : Str).cps.toList = List.range' 97 26 := by decide +kernel
theorem in_abc {c : Nat} : decide (c ∈ ("abcdefghijklmnopqrstuvwxyz" : Str).cps.toList) = isLet c := by
  rw [tl_abc]
  unfold isLet
  congr 1
  simp only [List.mem_range'_1, eq_iff_iff]
  omega
theorem in_fig {c : Nat} : decide (c ∈ ("0123456789" : Str).cps.toList) = isFig c := by
  rw [tl_fig]
  unfold isFig
  congr 1
  simp only [figL, List.mem_cons, List.not_mem_nil, or_false, eq_iff_iff]
  omega
theorem atI_zero {α : Type} {c : α} {r : List α} : atI (c :: r) 0 = some c := by
  unfold atI ixN
  simp
theorem p_is_name {n : Str} (h : Nm n) : m_is_name [.str n] = some (.sh (.bl true)) := by
  have hl := h.len
  obtain ⟨c, r, e, hc⟩ := h.head
  have h1 : n.length ≠ 0 := by rw [← tl_len, e]; simp
  have ss : small n.length = true := decide_eq_true (by omega)
  have e0 : subD (.str n) (.int 0) = some (.str ⟨#[c]⟩) := by
    have : atI n.cps.toList 0 = some c := by
      show atI (tl n) 0 = _
      rw [e]; exact atI_zero
    have e1 : ixS (.str n) (.int 0) = some (.str ⟨#[c]⟩) := by
      show (if small n.length = true then (atI n.cps.toList 0).map fun c => D.str ⟨#[c]⟩ else none) = _
      rw [if_pos ss, this]; rfl
    show (match ixS (.str n) (.int 0) with | some z => some z | none => ixD (.str n) (.int 0)) = _
    rw [e1]
  have e1 : inD true (.str ⟨#[c]⟩) (.str "abcdefghijklmnopqrstuvwxyz") = some (.bl false) := by
    rw [inD_sign, in_abc, hc]; rfl
  have q2 : lcE [1] (itE seqS' (vE 0)) (bN 1) yesB (orD (op2 (inD false) (vE 1) (cE (.str "abcdefghijklmnopqrstuvwxyz"))) (op2 (inD false) (vE 1) (cE (.str "0123456789")))) [W.w false (.sh (.str n)), W.un] = some (.ol ((tl n).map fun _ => D.bl true), [W.w false (.sh (.str n)), W.un]) := by
    refine lcE_map (enc := fun c => D.str ⟨#[c]⟩) (by simp [seqS', signs_map]) (decide_eq_true (by rw [tl_len]; omega)) fun c hc => ?_
    refine ⟨[W.w false (.sh (.str n)), W.w false (.sh (.str ⟨#[c]⟩))], [W.w false (.sh (.str n)), W.w false (.sh (.str ⟨#[c]⟩))], rfl, ?_, rfl⟩
    have k1 : inD false (.str ⟨#[c]⟩) (.str "abcdefghijklmnopqrstuvwxyz") = some (.bl (isLet c)) := by rw [inD_sign, in_abc]; rfl
    have k2 : inD false (.str ⟨#[c]⟩) (.str "0123456789") = some (.bl (isFig c)) := by rw [inD_sign, in_fig]; rfl
    rcases h.signs c hc with z | z
    · simp [orD, k1, k2, z]
    · cases hz : isLet c <;> simp [orD, k1, k2, z, hz]
  have q3 : allD (.lst ((tl n).map fun _ => D.bl true)) = some (.bl true) := all_bl fun d hd => by
    obtain ⟨_, _, rfl⟩ := List.mem_map.mp hd; rfl
  have q4 : isiD (.str n) (.ty "str") = some (.bl true) := rfl
  have q7 : lenD (.str n) = some (.int n.length) := by show (if small n.length = true then some (D.int n.length) else none) = _; rw [if_pos ss]
  have q8 : 0 < n.length := by omega
  have q9 : ((n.length : Int) ≤ 8) := by omega
  unfold m_is_name fnP g_is_name
  simp [q2, q3, q4, q7, q8, q9, chF, e0, e1]
end Mi
/-! text S12 -/
set_option linter.all false
set_option maxRecDepth 100000
set_option maxHeartbeats 1000000
namespace Mi
open PySem L2 Dl TL
/-- the reader, with what it has read -/
def rdO (ts ds : List (Key × D)) (ls : List (List Key × D)) : O := .ob "LogReader" [("own_towns", .ok ts), ("own_deeds", .ok ds), ("own_letters", .ot ls)]
theorem n_td : ¬ (Str.ofString "own_towns" = Str.ofString "own_deeds") := by decide +kernel
theorem n_tl : ¬ (Str.ofString "own_towns" = Str.ofString "own_letters") := by decide +kernel
theorem n_dl : ¬ (Str.ofString "own_deeds" = Str.ofString "own_letters") := by decide +kernel
theorem p_rd0 : m_LogReader__init_ (.ob "LogReader" []) [] = some (.sh .non, rdO [] [] []) := by
  unfold m_LogReader__init_ fnR g_LogReader__init_ rdO
  simp [has, fput, n_td, n_tl, n_dl]
theorem kput_new {κ α : Type} [DecidableEq κ] {l : List (κ × α)} {k : κ} {d : α} (h : k ∉ l.map (·.1)) : kput l k d = l ++ [(k, d)] := by
  unfold kput
  rw [if_neg h]
theorem kget_new {κ α : Type} [DecidableEq κ] {k : κ} : ∀ {l : List (κ × α)}, k ∉ l.map (·.1) → kget k l = none
  | [], _ => rfl
  | p :: r, h => by
    unfold kget
    simp only [List.map_cons, List.mem_cons, not_or] at h
    rw [if_neg (fun e => h.1 e.symm)]
    exact kget_new h.2
theorem takes_town {ts : List (Key × D)} {ls : List (List Key × D)} {n : Str} {low high : Int} (h7 : ts.length < 8) (hn : m_is_name [.str n] = some (.sh (.bl true))) (hk : (Sum.inr n : Key) ∉ ts.map (·.1)) (h1 : -999 ≤ low) (h2 : low ≤ high) (h3 : high ≤ 999) :
    m_LogReader_takes_town (rdO ts [] ls) [.str n, .int low, .int high] = some (.sh (.bl true), rdO (ts ++ [(.inr n, .tup [.int low, .int high])]) [] ls) := by
  have e1 := p_is_between low (-999) 999
  rw [decide_eq_true (by omega)] at e1
  have e2 := p_is_between high low 999
  rw [decide_eq_true (by omega)] at e2
  have e3 : ((ts.length : Int) == 8) = false := by simp; omega
  have e4 := kget_new hk
  have s1 : ts.length ≤ 100000 := by omega
  unfold m_LogReader_takes_town fnR g_LogReader_takes_town rdO
  simp [fget, n_td, lenO, eqI, e3, hn, inO, keyD, e4, e1, e2, putO, s1, kput_new hk, fput, small]
theorem kget_old {κ α : Type} [DecidableEq κ] {k : κ} : ∀ {l : List (κ × α)}, k ∈ l.map (·.1) → (kget k l).isSome = true
  | [], h => nomatch h
  | p :: r, h => by
    unfold kget
    simp only [List.map_cons, List.mem_cons] at h
    by_cases e : p.1 = k
    · rw [if_pos e]; rfl
    · rw [if_neg e]
      exact kget_old (h.resolve_left fun z => e z.symm)
theorem takes_deed {ts ds : List (Key × D)} {n t : Str} {sh : Int} (h7 : ds.length < 24) (hn : m_is_name [.str n] = some (.sh (.bl true))) (hk : (Sum.inr n : Key) ∉ ds.map (·.1)) (ht : (Sum.inr t : Key) ∈ ts.map (·.1)) (h1 : 0 ≤ sh) (h2 : sh ≤ 99999) :
    m_LogReader_takes_deed (rdO ts ds []) [.str n, .str t, .int sh] = some (.sh (.bl true), rdO ts (ds ++ [(.inr n, .tup [.str t, .int sh])]) []) := by
  have e1 := p_is_between sh 0 99999
  rw [decide_eq_true (by omega)] at e1
  have e3 : ((ds.length : Int) == 24) = false := by simp; omega
  have e4 := kget_new hk
  obtain ⟨d0, e5⟩ := Option.isSome_iff_exists.mp (kget_old ht)
  have s1 : ds.length ≤ 100000 := by omega
  unfold m_LogReader_takes_deed fnR g_LogReader_takes_deed rdO
  simp [fget, n_td, n_tl, n_dl, lenO, eqI, e3, hn, inO, keyD, e4, e5, e1, putO, s1, kput_new hk, fput, small]

def oD : Option Int → D
  | none => .non
  | some i => .int i
theorem isD_oD (neg : Bool) (o : Option Int) : isD neg (oD o) .non = some (.bl (if neg then o.isSome else o.isNone)) := by
  cases o <;> cases neg <;> rfl
theorem eqS_ne {a b : Str} (ha : PyData.canLay0 (.str a) = true) (hb : PyData.canLay0 (.str b) = true) (h : a ≠ b) : eqD false (.str a) (.str b) = some (.bl false) := by
  rw [eqS ha hb, beq_str, decide_eq_false h]; rfl
theorem eqS_self {a : Str} (ha : PyData.canLay0 (.str a) = true) : eqD false (.str a) (.str a) = some (.bl true) := by
  rw [eqS ha ha, beq_str, decide_eq_true rfl]; rfl
theorem neS_ne {a b : Str} (ha : PyData.canLay0 (.str a) = true) (hb : PyData.canLay0 (.str b) = true) (h : a ≠ b) : eqD true (.str a) (.str b) = some (.bl true) := by
  rw [eqS ha hb, beq_str, decide_eq_false h]; rfl
theorem neS_self {a : Str} (ha : PyData.canLay0 (.str a) = true) : eqD true (.str a) (.str a) = some (.bl false) := by
  rw [eqS ha ha, beq_str, decide_eq_true rfl]; rfl
theorem takes_letter {ts ds : List (Key × D)} {ls : List (List Key × D)} {a b : Str} {least : Int} {most : Option Int} (h7 : ls.length < 40) (hk : ([Sum.inr a, Sum.inr b] : List Key) ∉ ls.map (·.1)) (ha : (Sum.inr a : Key) ∈ ds.map (·.1)) (hb : (Sum.inr b : Key) ∈ ds.map (·.1)) (ne : eqD false (.str a) (.str b) = some (.bl false))
    (l0 : 0 ≤ least) (l1 : least ≤ 99999) (m0 : ∀ m, most = some m → least ≤ m ∧ m ≤ 99999) :
    m_LogReader_takes_letter (rdO ts ds ls) [.tup [.str a, .str b], .int least, oD most] = some (.sh (.bl true), rdO ts ds (ls ++ [([.inr a, .inr b], .tup [.int least, oD most])])) := by
  have e1 := p_is_between least 0 99999
  rw [decide_eq_true (by omega)] at e1
  have e3 : ((ls.length : Int) == 40) = false := by simp; omega
  have e4 := kget_new hk
  obtain ⟨d1, e5⟩ := Option.isSome_iff_exists.mp (kget_old ha)
  obtain ⟨d2, e6⟩ := Option.isSome_iff_exists.mp (kget_old hb)
  have s1 : ls.length ≤ 100000 := by omega
  have t0 : subD (.tup [.str a, .str b]) (.int 0) = some (.str a) := subD_tup (atI_nat (n := 0) rfl rfl)
  have t1 : subD (.tup [.str a, .str b]) (.int 1) = some (.str b) := subD_tup (atI_nat (n := 1) rfl rfl)
  unfold m_LogReader_takes_letter fnR g_LogReader_takes_letter rdO
  cases most with
  | none => simp [fget, n_td, n_tl, n_dl, lenO, eqI, e3, inO, keyD, keysD, e4, e5, e6, e1, t0, t1, ne, isD, Dl.isNon, oD, putO, s1, kput_new hk, fput, small]
  | some m =>
    obtain ⟨m1, m2⟩ := m0 m rfl
    have e2 := p_is_between m least 99999
    rw [decide_eq_true (by omega)] at e2
    simp [fget, n_td, n_tl, n_dl, lenO, eqI, e3, inO, keyD, keysD, e4, e5, e6, e1, e2, t0, t1, ne, isD, Dl.isNon, oD, putO, s1, kput_new hk, fput, small]
end Mi
/-! text S13 -/
set_option linter.all false
set_option maxRecDepth 100000
set_option maxHeartbeats 1000000
namespace Mi
open PySem L2 Dl TL
/-! ### lines of a log -/
def starT : Option Int → Str
  | none => "*"
  | some i => I i
abbrev Tw := Str × Int × Int
abbrev Dd := Str × Str × Int
abbrev Lt := Str × Str × Int × Option Int
def lineT (t : Tw) : Str := Txt.join " " ["town", t.1, I t.2.1, I t.2.2]
def lineD (d : Dd) : Str := Txt.join " " ["deed", d.1, d.2.1, I d.2.2]
def lineL (l : Lt) : Str := Txt.join " " ["letter", l.1, l.2.1, I l.2.2.1, starT l.2.2.2]
theorem int_free' {i : Int} {s : Nat} (h : s < 45) : s ∉ tl (I i) := int_free h
theorem star_free {o : Option Int} {s : Nat} (h : s < 42) : s ∉ tl (starT o) := by
  cases o with
  | none =>
    show s ∉ tl ("*" : Str)
    rw [show tl ("*" : Str) = [42] from by decide +kernel]
    simp
    omega
  | some i => exact int_free (by omega)
theorem star_lay (o : Option Int) : PyData.canLay0 (.str (starT o)) = true := by
  cases o with
  | none => decide +kernel
  | some i => exact int_lay i
theorem star_is {o : Option Int} : eqD false (.str (starT o)) (.str ("*" : Str)) = some (.bl o.isNone) := by
  cases o with
  | none => exact eqS_self (by decide +kernel)
  | some i =>
    refine eqS_ne (int_lay i) (by decide +kernel) fun (z : I i = _) => ?_
    have e : 42 ∈ tl (I i) := by rw [z]; decide +kernel
    rcases int_sign e with h | h <;> omega
theorem star_isnt {o : Option Int} : eqD true (.str (starT o)) (.str ("*" : Str)) = some (.bl o.isSome) := by
  cases o with
  | none => exact neS_self (by decide +kernel)
  | some i =>
    refine neS_ne (int_lay i) (by decide +kernel) fun (z : I i = _) => ?_
    have e : 42 ∈ tl (I i) := by rw [z]; decide +kernel
    rcases int_sign e with h | h <;> omega
theorem w_free {s : Nat} (h : s < 97) : s ∉ tl ("town" : Str) ∧ s ∉ tl ("deed" : Str) ∧ s ∉ tl ("letter" : Str) := by
  rw [show tl ("town" : Str) = [116, 111, 119, 110] from by decide +kernel, show tl ("deed" : Str) = [100, 101, 101, 100] from by decide +kernel, show tl ("letter" : Str) = [108, 101, 116, 116, 101, 114] from by decide +kernel]
  simp only [List.mem_cons, List.not_mem_nil, or_false]
  omega
theorem nm_free {n : Str} (h : Nm n) {s : Nat} (hs : s < 48) : s ∉ tl n := fun z => by have := h.rng z; omega
theorem split_T {t : Tw} (h : Nm t.1) : Txt.split (lineT t) " " = [("town" : Str), t.1, I t.2.1, I t.2.2] :=
  TL.split_join sp_tl (by decide +kernel) (by simp) fun p hp => by
    simp only [List.mem_cons, List.not_mem_nil, or_false] at hp
    rcases hp with rfl | rfl | rfl | rfl
    · exact (w_free (by decide)).1
    · exact nm_free h (by decide)
    · exact int_free (by decide)
    · exact int_free (by decide)
theorem split_D {d : Dd} (h : Nm d.1) (h2 : Nm d.2.1) : Txt.split (lineD d) " " = [("deed" : Str), d.1, d.2.1, I d.2.2] :=
  TL.split_join sp_tl (by decide +kernel) (by simp) fun p hp => by
    simp only [List.mem_cons, List.not_mem_nil, or_false] at hp
    rcases hp with rfl | rfl | rfl | rfl
    · exact (w_free (by decide)).2.1
    · exact nm_free h (by decide)
    · exact nm_free h2 (by decide)
    · exact int_free (by decide)
theorem split_L {l : Lt} (h : Nm l.1) (h2 : Nm l.2.1) : Txt.split (lineL l) " " = [("letter" : Str), l.1, l.2.1, I l.2.2.1, starT l.2.2.2] :=
  TL.split_join sp_tl (by decide +kernel) (by simp) fun p hp => by
    simp only [List.mem_cons, List.not_mem_nil, or_false] at hp
    rcases hp with rfl | rfl | rfl | rfl | rfl
    · exact (w_free (by decide)).2.2
    · exact nm_free h (by decide)
    · exact nm_free h2 (by decide)
    · exact int_free (by decide)
    · exact star_free (by decide)
theorem mem_joinL {S : List Nat} {c : Nat} : ∀ {ps : List (List Nat)}, c ∈ joinL S ps → c ∈ S ∨ ∃ p ∈ ps, c ∈ p
  | [], h => by cases h
  | [p], h => .inr ⟨p, List.mem_cons_self, h⟩
  | p :: q :: r, h => by
    have h' : c ∈ p ++ (S ++ joinL S (q :: r)) := by
      rw [show p ++ (S ++ joinL S (q :: r)) = joinL S (p :: q :: r) from by simp [joinL]]
      exact h
    rcases List.mem_append.mp h' with z | z
    · exact .inr ⟨p, List.mem_cons_self, z⟩
    · rcases List.mem_append.mp z with z | z
      · exact .inl z
      · rcases mem_joinL z with z | ⟨p', z1, z2⟩
        · exact .inl z
        · exact .inr ⟨p', List.mem_cons_of_mem _ z1, z2⟩
theorem join_free {ps : List Str} {s : Nat} (h : ∀ p ∈ ps, s ∉ tl p) (hs : s ≠ 32) : s ∉ tl (Txt.join " " ps) := by
  rw [TL.join_eq, tl_join, sp_tl]
  intro z
  rcases mem_joinL z with z | ⟨p, z1, z2⟩
  · simp only [List.mem_cons, List.not_mem_nil, or_false] at z; exact hs z
  · obtain ⟨q, q1, rfl⟩ := List.mem_map.mp z1
    exact h q q1 z2
theorem nl_T {t : Tw} (h : Nm t.1) : 10 ∉ tl (lineT t) := join_free (fun p hp => by
    simp only [List.mem_cons, List.not_mem_nil, or_false] at hp
    rcases hp with rfl | rfl | rfl | rfl
    · exact (w_free (by decide)).1
    · exact nm_free h (by decide)
    · exact int_free (by decide)
    · exact int_free (by decide)) (by decide)
theorem nl_D {d : Dd} (h : Nm d.1) (h2 : Nm d.2.1) : 10 ∉ tl (lineD d) := join_free (fun p hp => by
    simp only [List.mem_cons, List.not_mem_nil, or_false] at hp
    rcases hp with rfl | rfl | rfl | rfl
    · exact (w_free (by decide)).2.1
    · exact nm_free h (by decide)
    · exact nm_free h2 (by decide)
    · exact int_free (by decide)) (by decide)
theorem nl_L {l : Lt} (h : Nm l.1) (h2 : Nm l.2.1) : 10 ∉ tl (lineL l) := join_free (fun p hp => by
    simp only [List.mem_cons, List.not_mem_nil, or_false] at hp
    rcases hp with rfl | rfl | rfl | rfl | rfl
    · exact (w_free (by decide)).2.2
    · exact nm_free h (by decide)
    · exact nm_free h2 (by decide)
    · exact int_free (by decide)
    · exact star_free (by decide)) (by decide)
theorem joinL_len {S : List Nat} : ∀ {ps : List (List Nat)}, (joinL S ps).length ≤ (ps.map List.length).sum + ps.length * S.length
  | [] => by simp [joinL]
  | [p] => by simp [joinL]
  | p :: q :: r => by
    have := joinL_len (S := S) (ps := q :: r)
    have e : (joinL S (p :: q :: r)).length = p.length + (S.length + (joinL S (q :: r)).length) := by
      rw [show joinL S (p :: q :: r) = p ++ (S ++ joinL S (q :: r)) from by simp [joinL], List.length_append, List.length_append]
    rw [e]
    simp only [List.map_cons, List.sum_cons, List.length_cons, Nat.add_mul, Nat.one_mul] at this ⊢
    omega
theorem join_len {y : Str} {ps : List Str} : (Txt.join y ps).length ≤ (ps.map (·.length)).sum + ps.length * y.length := by
  rw [TL.join_eq, ← tl_len, tl_join]
  have := joinL_len (S := tl y) (ps := ps.map tl)
  rw [List.map_map, List.length_map] at this
  have e : (ps.map (List.length ∘ tl)) = ps.map (·.length) := List.map_congr_left fun p _ => tl_len p
  rw [e, tl_len] at this
  exact this
theorem z_len : ("town" : Str).length = 4 ∧ ("deed" : Str).length = 4 ∧ ("letter" : Str).length = 6 ∧ (" " : Str).length = 1 ∧ ("\n" : Str).length = 1 ∧ ("*" : Str).length = 1 := by decide +kernel
theorem len_T {t : Tw} (h : Nm t.1) (h1 : t.2.1.natAbs < 10 ^ 6) (h2 : t.2.2.natAbs < 10 ^ 6) : (lineT t).length ≤ 60 := by
  have := join_len (y := " ") (ps := [("town" : Str), t.1, I t.2.1, I t.2.2])
  simp only [List.map_cons, List.map_nil, List.sum_cons, List.sum_nil, List.length_cons, List.length_nil, z_len] at this
  have a1 := h.len
  have a2 : (I t.2.1).length ≤ 7 := len_int h1
  have a3 : (I t.2.2).length ≤ 7 := len_int h2
  unfold lineT
  omega
theorem len_D {d : Dd} (h : Nm d.1) (h2 : Nm d.2.1) (h1 : d.2.2.natAbs < 10 ^ 6) : (lineD d).length ≤ 60 := by
  have := join_len (y := " ") (ps := [("deed" : Str), d.1, d.2.1, I d.2.2])
  simp only [List.map_cons, List.map_nil, List.sum_cons, List.sum_nil, List.length_cons, List.length_nil, z_len] at this
  have a1 := h.len
  have a2 := h2.len
  have a3 : (I d.2.2).length ≤ 7 := len_int h1
  unfold lineD
  omega
theorem star_len {o : Option Int} (h : ∀ i, o = some i → i.natAbs < 10 ^ 6) : (starT o).length ≤ 7 := by
  cases o with
  | none => show ("*" : Str).length ≤ 7; decide +kernel
  | some i => exact len_int (h i rfl)
theorem len_L {l : Lt} (h : Nm l.1) (h2 : Nm l.2.1) (h1 : l.2.2.1.natAbs < 10 ^ 6) (h3 : ∀ i, l.2.2.2 = some i → i.natAbs < 10 ^ 6) : (lineL l).length ≤ 60 := by
  have := join_len (y := " ") (ps := [("letter" : Str), l.1, l.2.1, I l.2.2.1, starT l.2.2.2])
  simp only [List.map_cons, List.map_nil, List.sum_cons, List.sum_nil, List.length_cons, List.length_nil, z_len] at this
  have a1 := h.len
  have a2 := h2.len
  have a3 : (I l.2.2.1).length ≤ 7 := len_int h1
  have a4 := star_len h3
  unfold lineL
  omega
end Mi
/-! text S14 -/
set_option linter.all false
set_option maxRecDepth 100000
set_option maxHeartbeats 1000000
namespace Mi
open PySem L2 Dl TL
def tD (p : Tw) : Key × D := (.inr p.1, .tup [.int p.2.1, .int p.2.2])
def dD (p : Dd) : Key × D := (.inr p.1, .tup [.str p.2.1, .int p.2.2])
def lD (p : Lt) : List Key × D := ([.inr p.1, .inr p.2.1], .tup [.int p.2.2.1, oD p.2.2.2])
structure Lg where
  tw : List Tw
  dd : List Dd
  lt : List Lt
def Lg.tn (L : Lg) : List Str := L.tw.map (·.1)
def Lg.dn (L : Lg) : List Str := L.dd.map (·.1)
def Lg.ends (L : Lg) : List (Str × Str) := L.lt.map fun l => (l.1, l.2.1)
def TOk (t : Tw) : Prop := Nm t.1 ∧ -999 ≤ t.2.1 ∧ t.2.1 ≤ t.2.2 ∧ t.2.2 ≤ 999
def DOk (tn : List Str) (d : Dd) : Prop := Nm d.1 ∧ d.2.1 ∈ tn ∧ 0 ≤ d.2.2 ∧ d.2.2 ≤ 99999
def LOk (dn : List Str) (l : Lt) : Prop := l.1 ≠ l.2.1 ∧ l.1 ∈ dn ∧ l.2.1 ∈ dn ∧ 0 ≤ l.2.2.1 ∧ l.2.2.1 ≤ 99999 ∧ ∀ m, l.2.2.2 = some m → l.2.2.1 ≤ m ∧ m ≤ 99999
structure Lg.Ok (L : Lg) : Prop where
  t0 : L.tw ≠ []
  t8 : L.tw.length ≤ 8
  tok : ∀ t ∈ L.tw, TOk t
  tu : L.tn.Nodup
  d24 : L.dd.length ≤ 24
  dok : ∀ d ∈ L.dd, DOk L.tn d
  du : L.dn.Nodup
  l40 : L.lt.length ≤ 40
  lok : ∀ l ∈ L.lt, LOk L.dn l
  lu : L.ends.Nodup
theorem Lg.Ok.tnm {L : Lg} (h : L.Ok) {n : Str} (hn : n ∈ L.tn) : Nm n := by
  obtain ⟨t, h1, rfl⟩ := List.mem_map.mp hn
  exact (h.tok t h1).1
theorem Lg.Ok.dnm {L : Lg} (h : L.Ok) {n : Str} (hn : n ∈ L.dn) : Nm n := by
  obtain ⟨t, h1, rfl⟩ := List.mem_map.mp hn
  exact (h.dok t h1).1
theorem w_lay : PyData.canLay0 (.str ("town" : Str)) = true ∧ PyData.canLay0 (.str ("deed" : Str)) = true ∧ PyData.canLay0 (.str ("letter" : Str)) = true := by decide +kernel
theorem w_td : eqD false (.str ("town" : Str)) (.str ("town" : Str)) = some (.bl true) := eqS_self w_lay.1
theorem w_dt : eqD false (.str ("deed" : Str)) (.str ("town" : Str)) = some (.bl false) := eqS_ne w_lay.2.1 w_lay.1 (by decide +kernel)
theorem w_dd : eqD false (.str ("deed" : Str)) (.str ("deed" : Str)) = some (.bl true) := eqS_self w_lay.2.1
theorem w_lt : eqD false (.str ("letter" : Str)) (.str ("town" : Str)) = some (.bl false) := eqS_ne w_lay.2.2 w_lay.1 (by decide +kernel)
theorem w_ld : eqD false (.str ("letter" : Str)) (.str ("deed" : Str)) = some (.bl false) := eqS_ne w_lay.2.2 w_lay.2.1 (by decide +kernel)
theorem w_ll : eqD true (.str ("letter" : Str)) (.str ("letter" : Str)) = some (.bl false) := neS_self w_lay.2.2
@[simp] theorem sub_l0 {a : D} {r : List D} : subD (.lst (a :: r)) (.int 0) = some a := subD_lst (atI_nat (n := 0) rfl rfl)
@[simp] theorem sub_l1 {a b : D} {r : List D} : subD (.lst (a :: b :: r)) (.int 1) = some b := subD_lst (atI_nat (n := 1) rfl rfl)
@[simp] theorem sub_l2 {a b c : D} {r : List D} : subD (.lst (a :: b :: c :: r)) (.int 2) = some c := subD_lst (atI_nat (n := 2) rfl rfl)
@[simp] theorem sub_l3 {a b c d : D} {r : List D} : subD (.lst (a :: b :: c :: d :: r)) (.int 3) = some d := subD_lst (atI_nat (n := 3) rfl rfl)
@[simp] theorem sub_l4 {a b c d e : D} {r : List D} : subD (.lst (a :: b :: c :: d :: e :: r)) (.int 4) = some e := subD_lst (atI_nat (n := 4) rfl rfl)
@[simp] theorem sub_t0 {a : D} {r : List D} : subD (.tup (a :: r)) (.int 0) = some a := subD_tup (atI_nat (n := 0) rfl rfl)
@[simp] theorem sub_t1 {a b : D} {r : List D} : subD (.tup (a :: b :: r)) (.int 1) = some b := subD_tup (atI_nat (n := 1) rfl rfl)
@[simp] theorem sub_t2 {a b c : D} {r : List D} : subD (.tup (a :: b :: c :: r)) (.int 2) = some c := subD_tup (atI_nat (n := 2) rfl rfl)
@[simp] theorem sub_t3 {a b c d : D} {r : List D} : subD (.tup (a :: b :: c :: d :: r)) (.int 3) = some d := subD_tup (atI_nat (n := 3) rfl rfl)
@[simp] theorem len_lst {l : List D} : lenD (.lst l) = some (.int l.length) := rfl
@[simp] theorem len_tup {l : List D} : lenD (.tup l) = some (.int l.length) := rfl
@[simp] theorem ev_m1E {f : D → D → Option O} {g g' : DE} {ρ : List W} : m1E f g g' ρ = (match g ρ with | some (.str z, ρ1) => (match g' ρ1 with | some (y, ρ2) => (f (.str z) y).map fun o => (o, ρ2) | none => none) | _ => none) := rfl
@[simp] theorem ev_methR {c m : Str} {n : Nat} {mr : O → List D → Option (O × O)} {i : Nat} {l : LE} {ρ : List W} : methR c m n mr i l ρ = (match ρ[i]? with | some (W.w _ (.ob c0 fs0)) => if c0 = c ∧ fget m fs0 = none then (match l ρ with | some (ds, ρ1) => if ds.length + 1 = n then (match ρ1[i]? with | some (W.w b o) => (mr o ds).map fun p => (p.1, ρ1.set i (.w b p.2)) | _ => none) else none | none => none) else none | _ => none) := rfl
@[simp] theorem eqI' (neg : Bool) (i j : Int) : eqD neg (.int i) (.int j) = some (.bl (if neg then !(i == j) else (i == j))) := eqI neg i j
theorem rd_names : ("own_towns" : Str) ≠ "takes_town" ∧ ("own_deeds" : Str) ≠ "takes_town" ∧ ("own_letters" : Str) ≠ "takes_town" ∧ ("own_towns" : Str) ≠ "takes_deed" ∧ ("own_deeds" : Str) ≠ "takes_deed" ∧ ("own_letters" : Str) ≠ "takes_deed" ∧ ("own_towns" : Str) ≠ "takes_letter" ∧ ("own_deeds" : Str) ≠ "takes_letter" ∧ ("own_letters" : Str) ≠ "takes_letter" ∧ ("own_towns" : Str) ≠ "takes" ∧ ("own_deeds" : Str) ≠ "takes" ∧ ("own_letters" : Str) ≠ "takes" := by decide +kernel
theorem split_ok {a : Str} (h : a.length ≤ 100) : splitD (.str a) (.str (" " : Str)) = some (.ol ((Txt.split a " ").map .str)) := by
  show (if !((" " : Str).length == 0) && small (a.length + 2) then _ else none) = _
  have : small (a.length + 2) = true := decide_eq_true (by omega)
  rw [this]; rfl
theorem rd_meth {m : Str} {ts ds : List (Key × D)} {ls : List (List Key × D)} (h1 : ("own_towns" : Str) ≠ m) (h2 : ("own_deeds" : Str) ≠ m) (h3 : ("own_letters" : Str) ≠ m) : fget m [(("own_towns" : Str), O.ok ts), ("own_deeds", .ok ds), ("own_letters", .ot ls)] = none := by
  simp [fget, h1, h2, h3]
theorem takes_T {ts : List (Key × D)} {ls : List (List Key × D)} {t : Tw} (h7 : ts.length < 8) (hk : (Sum.inr t.1 : Key) ∉ ts.map (·.1)) (ok : TOk t) :
    m_LogReader_takes (rdO ts [] ls) [.str (lineT t)] = some (.sh (.bl true), rdO (ts ++ [tD t]) [] ls) := by
  obtain ⟨hn, h1, h2, h3⟩ := ok
  have e1 := split_ok (a := lineT t) (Nat.le_trans (len_T hn (by omega) (by omega)) (by decide))
  rw [split_T hn] at e1
  have r1 : m_read_integer [.str (I t.2.1)] = some (.sh (.int t.2.1)) := p_read (by omega)
  have r2 : m_read_integer [.str (I t.2.2)] = some (.sh (.int t.2.2)) := p_read (by omega)
  have k := takes_town (ls := ls) h7 (p_is_name hn) hk h1 h2 h3
  obtain ⟨a1, a2, a3, b⟩ := rd_names
  have f := rd_meth (ts := ts) (ds := []) (ls := ls) a1 a2 a3
  unfold m_LogReader_takes fnR g_LogReader_takes
  unfold rdO at k ⊢
  simp [e1, w_td, r1, r2, f, k, tD]
theorem takes_D {ts ds : List (Key × D)} {tn : List Str} {d : Dd} (h7 : ds.length < 24) (hk : (Sum.inr d.1 : Key) ∉ ds.map (·.1)) (ht : (Sum.inr d.2.1 : Key) ∈ ts.map (·.1)) (hm : Nm d.2.1) (ok : DOk tn d) :
    m_LogReader_takes (rdO ts ds []) [.str (lineD d)] = some (.sh (.bl true), rdO ts (ds ++ [dD d]) []) := by
  obtain ⟨hn, h1, h2, h3⟩ := ok
  have e1 := split_ok (a := lineD d) (Nat.le_trans (len_D hn hm (by omega)) (by decide))
  rw [split_D hn hm] at e1
  have r1 : m_read_integer [.str (I d.2.2)] = some (.sh (.int d.2.2)) := p_read (by omega)
  have k := takes_deed (ts := ts) h7 (p_is_name hn) hk ht h2 h3
  obtain ⟨_, _, _, a1, a2, a3, b⟩ := rd_names
  have f := rd_meth (ts := ts) (ds := ds) (ls := []) a1 a2 a3
  unfold m_LogReader_takes fnR g_LogReader_takes
  unfold rdO at k ⊢
  simp [e1, w_dt, w_dd, r1, f, k, dD]
theorem takes_L {ts ds : List (Key × D)} {ls : List (List Key × D)} {dn : List Str} {l : Lt} (h7 : ls.length < 40) (hk : ([Sum.inr l.1, Sum.inr l.2.1] : List Key) ∉ ls.map (·.1)) (ha : (Sum.inr l.1 : Key) ∈ ds.map (·.1)) (hb : (Sum.inr l.2.1 : Key) ∈ ds.map (·.1)) (n1 : Nm l.1) (n2 : Nm l.2.1) (ok : LOk dn l) :
    m_LogReader_takes (rdO ts ds ls) [.str (lineL l)] = some (.sh (.bl true), rdO ts ds (ls ++ [lD l])) := by
  obtain ⟨ne, _, _, h1, h2, h3⟩ := ok
  have e1 := split_ok (a := lineL l) (Nat.le_trans (len_L n1 n2 (by omega) fun i hi => by have := h3 i hi; omega) (by decide))
  rw [split_L n1 n2] at e1
  have r1 : m_read_integer [.str (I l.2.2.1)] = some (.sh (.int l.2.2.1)) := p_read (by omega)
  have k := takes_letter (ts := ts) h7 hk ha hb (eqS_ne n1.lay n2.lay ne) h1 h2 h3
  obtain ⟨_, _, _, _, _, _, a1, a2, a3, b⟩ := rd_names
  have f := rd_meth (ts := ts) (ds := ds) (ls := ls) a1 a2 a3
  have s1 := star_is (o := l.2.2.2)
  have s2 := star_isnt (o := l.2.2.2)
  unfold m_LogReader_takes fnR g_LogReader_takes
  unfold rdO at k ⊢
  cases hm : l.2.2.2 with
  | none =>
    rw [hm] at k s1 s2 e1
    simp only [oD] at k
    simp [e1, w_lt, w_ld, w_ll, r1, f, k, lD, hm, s1, s2, isD, Dl.isNon, oD, small]
  | some m =>
    have r2 : m_read_integer [.str (I m)] = some (.sh (.int m)) := p_read (by have := h3 m hm; omega)
    rw [hm] at k s1 s2 e1
    simp only [oD] at k
    simp only [starT] at e1 s1 s2
    simp [e1, w_lt, w_ld, w_ll, r1, r2, f, k, lD, hm, s1, s2, isD, Dl.isNon, oD, small]
end Mi
/-! text S15 -/
set_option linter.all false
set_option maxRecDepth 100000
set_option maxHeartbeats 1000000
namespace Mi
open PySem L2 Dl TL
def linesOf (L : Lg) : List Str := L.tw.map lineT ++ (L.dd.map lineD ++ L.lt.map lineL)
def textOf (L : Lg) : Str := Txt.join "\n" (linesOf L)
theorem pairsD_append : ∀ (a b : List D) (k : Nat), pairsD k (a ++ b) = pairsD k a ++ pairsD (k + a.length) b
  | [], b, k => rfl
  | x :: a, b, k => by
    simp only [List.cons_append, pairsD, List.length_cons]
    rw [pairsD_append a b (k + 1), show k + 1 + a.length = k + (a.length + 1) from by omega]
theorem forR_append {b : D → List W → Option (List W)} {body : DS} : ∀ {xs ys : List D} {ρ ρ1 : List W}, forR b body xs ρ = some (.nx ρ1) → (∀ x ∈ xs, True) → (∀ xs1 x xs2 ρ2 ρ3 ρ4, xs = xs1 ++ x :: xs2 → b x ρ2 = some ρ3 → body ρ3 ≠ some (.bk ρ4)) → forR b body (xs ++ ys) ρ = forR b body ys ρ1
  | [], ys, ρ, ρ1, h, _, _ => by cases h; rfl
  | x :: xs, ys, ρ, ρ1, h, _, nb => by
    unfold forR at h
    rw [List.cons_append]
    conv => lhs; unfold forR
    cases e1 : b x ρ with
    | none => rw [e1] at h; cases h
    | some ρ2 =>
      rw [e1] at h
      dsimp only at h ⊢
      cases e2 : body ρ2 with
      | none => rw [e2] at h; cases h
      | some r =>
        rw [e2] at h
        cases r with
        | nx ρ3 => exact forR_append h (fun _ _ => trivial) fun xs1 y xs2 a1 a2 a3 e => nb (x :: xs1) y xs2 a1 a2 a3 (by rw [e]; rfl)
        | ct ρ3 => exact forR_append h (fun _ _ => trivial) fun xs1 y xs2 a1 a2 a3 e => nb (x :: xs1) y xs2 a1 a2 a3 (by rw [e]; rfl)
        | bk ρ3 => exact absurd e2 (nb [] x xs _ _ _ rfl e1)
        | rt o ρ3 => cases h
abbrev loS (o : O) (z : Str) (r x y : W) : List W := [W.w true o, W.w false (.sh (.str z)), r, x, y]
abbrev takB : DS := ifS (notB (bE (frE (methR "LogReader" "takes" 2 m_LogReader_takes 2 (consL (vE 4) nilL))))) stuckS skipS
theorem stage {X : Type} {line : X → Str} {ts ds : List X → List (Key × D)} {ls : List X → List (List Key × D)} {P : List X → X → Prop} (o : O) (z : Str)
    (h : ∀ pre x, P pre x → m_LogReader_takes (rdO (ts pre) (ds pre) (ls pre)) [.str (line x)] = some (.sh (.bl true), rdO (ts (pre ++ [x])) (ds (pre ++ [x])) (ls (pre ++ [x])))) :
    ∀ (l pre : List X) (k : Nat) (x y : W) (rest : List D), (∀ a b c, l = a ++ c :: b → P (pre ++ a) c) →
      ∃ x' y', forR (bT 2 (bCons (bN 3) (bCons (bN 4) bNil))) takB (pairsD k (l.map fun p => .str (line p)) ++ rest) (loS o z (W.w false (rdO (ts pre) (ds pre) (ls pre))) x y) =
        forR (bT 2 (bCons (bN 3) (bCons (bN 4) bNil))) takB rest (loS o z (W.w false (rdO (ts (pre ++ l)) (ds (pre ++ l)) (ls (pre ++ l)))) x' y')
  | [], pre, k, x, y, rest, _ => ⟨x, y, by simp [pairsD]⟩
  | p :: l, pre, k, x, y, rest, hp => by
    obtain ⟨x', y', ih⟩ := stage o z h l (pre ++ [p]) (k + 1) (W.w false (.sh (.int (k : Nat)))) (W.w false (.sh (.str (line p)))) rest fun a b c e => by
      rw [List.append_assoc]
      exact hp (p :: a) b c (by rw [e]; rfl)
    refine ⟨x', y', ?_⟩
    rw [List.append_assoc] at ih
    rw [show pre ++ p :: l = pre ++ ([p] ++ l) from rfl, ← ih]
    simp only [List.map_cons, pairsD, List.cons_append]
    conv => lhs; unfold forR
    have e1 : bT 2 (bCons (bN 3) (bCons (bN 4) bNil)) (.tup [.int (k : Nat), .str (line p)]) (loS o z (W.w false (rdO (ts pre) (ds pre) (ls pre))) x y) = some (loS o z (W.w false (rdO (ts pre) (ds pre) (ls pre))) (W.w false (.sh (.int (k : Nat)))) (W.w false (.sh (.str (line p))))) := rfl
    rw [e1]
    dsimp only
    have k1 := h pre p (by simpa using hp [] l p rfl)
    obtain ⟨_, _, _, _, _, _, _, _, _, a1, a2, a3⟩ := rd_names
    have f := rd_meth (ts := ts pre) (ds := ds pre) (ls := ls pre) a1 a2 a3
    have e2 : takB (loS o z (W.w false (rdO (ts pre) (ds pre) (ls pre))) (W.w false (.sh (.int (k : Nat)))) (W.w false (.sh (.str (line p))))) = some (.nx (loS o z (W.w false (rdO (ts (pre ++ [p])) (ds (pre ++ [p])) (ls (pre ++ [p])))) (W.w false (.sh (.int (k : Nat)))) (W.w false (.sh (.str (line p)))))) := by
      unfold rdO at k1 ⊢
      simp [takB, f, k1]
    rw [e2]
theorem nl_tl : tl ("\n" : Str) = 10 :: [] := by decide +kernel
theorem Lg.Ok.lines {L : Lg} (h : L.Ok) : (∀ p ∈ linesOf L, 10 ∉ tl p ∧ p.length ≤ 60) ∧ linesOf L ≠ [] ∧ (linesOf L).length ≤ 72 := by
  refine ⟨fun p hp => ?_, ?_, ?_⟩
  · rcases List.mem_append.mp hp with hp | hp
    · obtain ⟨t, ht, rfl⟩ := List.mem_map.mp hp
      obtain ⟨k1, k2, k3, k4⟩ := h.tok t ht
      exact ⟨nl_T k1, len_T k1 (by omega) (by omega)⟩
    · rcases List.mem_append.mp hp with hp | hp
      · obtain ⟨d, hd, rfl⟩ := List.mem_map.mp hp
        obtain ⟨k1, k2, k3, k4⟩ := h.dok d hd
        exact ⟨nl_D k1 (h.tnm k2), len_D k1 (h.tnm k2) (by omega)⟩
      · obtain ⟨l, hl, rfl⟩ := List.mem_map.mp hp
        obtain ⟨k0, k1, k2, k3, k4, k5⟩ := h.lok l hl
        exact ⟨nl_L (h.dnm k1) (h.dnm k2), len_L (h.dnm k1) (h.dnm k2) (by omega) fun i hi => by have := k5 i hi; omega⟩
  · have := h.t0
    unfold linesOf
    cases e : L.tw with
    | nil => exact absurd e this
    | cons a b => simp
  · have := h.t8; have := h.d24; have := h.l40
    unfold linesOf
    simp only [List.length_append, List.length_map]
    omega
theorem text_len {L : Lg} (h : L.Ok) : (textOf L).length ≤ 5000 := by
  obtain ⟨h1, h2, h3⟩ := h.lines
  have e := join_len (y := "\n") (ps := linesOf L)
  have s := sum_le (n := 60) (l := linesOf L) fun x hx => (h1 x hx).2
  rw [z_len.2.2.2.2.1] at e
  unfold textOf
  omega
theorem text_split {L : Lg} (h : L.Ok) : splitD (.str (textOf L)) (.str ("\n" : Str)) = some (.ol ((linesOf L).map .str)) := by
  have hl := text_len h
  obtain ⟨h1, h2, h3⟩ := h.lines
  show (if !(("\n" : Str).length == 0) && small ((textOf L).length + 2) then some (O.ol ((Txt.split (textOf L) "\n").map D.str)) else none) = _
  have : small ((textOf L).length + 2) = true := decide_eq_true (by omega)
  rw [this]
  have e : Txt.split (textOf L) "\n" = linesOf L := TL.split_join nl_tl (by decide +kernel) h2 fun p hp => (h1 p hp).1
  rw [e]
  rfl
def logF (x : Str) (L : Lg) : List (Str × D) := [("own_text", .str x), ("own_towns", .dk (L.tw.map tD)), ("own_deeds", .dk (L.dd.map dD)), ("own_letters", .dt (L.lt.map lD))]
/-- a log -/
abbrev logD (L : Lg) : D := .obj "Log" (logF (textOf L) L)
def logO (L : Lg) : O := .ob "Log" [("own_text", .sh (.str (textOf L))), ("own_towns", .sh (.dk (L.tw.map tD))), ("own_deeds", .sh (.dk (L.dd.map dD))), ("own_letters", .sh (.dt (L.lt.map lD)))]
theorem logO_frz (L : Lg) : (logO L).frz = logD L := by
  unfold logO logD logF
  simp [O.frz, O.frzL]
end Mi
/-! text S16 -/
set_option linter.all false
set_option maxRecDepth 100000
set_option maxHeartbeats 1000000
namespace Mi
open PySem L2 Dl TL
theorem keys_T {l : List Tw} : (l.map tD).map (·.1) = (l.map (·.1)).map (Sum.inr : Str → Key) := by rw [List.map_map, List.map_map]; rfl
theorem keys_D {l : List Dd} : (l.map dD).map (·.1) = (l.map (·.1)).map (Sum.inr : Str → Key) := by rw [List.map_map, List.map_map]; rfl
theorem inr_mem {n : Str} {l : List Str} : (Sum.inr n : Key) ∈ l.map (Sum.inr : Str → Key) ↔ n ∈ l := by
  constructor
  · intro h
    obtain ⟨m, h1, h2⟩ := List.mem_map.mp h
    cases h2
    exact h1
  · exact fun h => List.mem_map_of_mem h
theorem keys_L {l : List Lt} : (l.map lD).map (·.1) = (l.map fun p => (p.1, p.2.1)).map (fun e : Str × Str => ([.inr e.1, .inr e.2] : List Key)) := by rw [List.map_map, List.map_map]; rfl
theorem ends_mem {e : Str × Str} {l : List (Str × Str)} : ([.inr e.1, .inr e.2] : List Key) ∈ l.map (fun e : Str × Str => ([.inr e.1, .inr e.2] : List Key)) ↔ e ∈ l := by
  constructor
  · intro h
    obtain ⟨m, h1, h2⟩ := List.mem_map.mp h
    simp only [List.cons.injEq, Sum.inr.injEq, and_true] at h2
    have : m = e := Prod.ext h2.1 h2.2
    exact this ▸ h1
  · exact fun h => List.mem_map_of_mem h
theorem nodup_pre {α : Type} {a b : List α} {x : α} (h : (a ++ x :: b).Nodup) : x ∉ a := by
  intro z
  rw [List.nodup_append] at h
  exact h.2.2 _ z _ List.mem_cons_self rfl
theorem parse {L : Lg} (h : L.Ok) (o : O) (z : Str) (x y : W) : ∃ x' y', forR (bT 2 (bCons (bN 3) (bCons (bN 4) bNil))) takB (pairsD 0 ((linesOf L).map .str)) (loS o z (W.w false (rdO [] [] [])) x y) = some (.nx (loS o z (W.w false (rdO (L.tw.map tD) (L.dd.map dD) (L.lt.map lD))) x' y')) := by
  have e : (linesOf L).map D.str = L.tw.map (fun t => .str (lineT t)) ++ (L.dd.map (fun d => .str (lineD d)) ++ L.lt.map fun l => .str (lineL l)) := by
    unfold linesOf
    rw [List.map_append, List.map_append, List.map_map, List.map_map, List.map_map]
    rfl
  rw [e, pairsD_append, pairsD_append]
  obtain ⟨x1, y1, s1⟩ := stage (line := lineT) (ts := fun l => l.map tD) (ds := fun _ => []) (ls := fun _ => []) (P := fun pre t => ∃ b, L.tw = pre ++ t :: b) o z (fun pre t ⟨b, eb⟩ => by
    have := h.t8
    have u := h.tu
    have ok := h.tok t (by rw [eb]; simp)
    rw [eb] at this
    simp only [List.length_append, List.length_cons] at this
    unfold Lg.tn at u
    rw [eb, List.map_append, List.map_cons] at u
    have k := takes_T (ts := pre.map tD) (ls := []) (by rw [List.length_map]; omega) (by rw [keys_T, inr_mem]; exact nodup_pre u) ok
    simp only [List.map_append, List.map_cons, List.map_nil]
    exact k) L.tw [] 0 x y
    (pairsD (0 + (L.tw.map (fun t => D.str (lineT t))).length) (L.dd.map (fun d => .str (lineD d))) ++ pairsD (0 + (L.tw.map (fun t => D.str (lineT t))).length + (L.dd.map (fun d => D.str (lineD d))).length) (L.lt.map fun l => .str (lineL l)))
    (fun a b c e => ⟨b, by simpa using e⟩)
  simp only [List.nil_append, List.map_nil] at s1
  rw [s1]
  obtain ⟨x2, y2, s2⟩ := stage (line := lineD) (ts := fun _ => L.tw.map tD) (ds := fun l => l.map dD) (ls := fun _ => []) (P := fun pre d => ∃ b, L.dd = pre ++ d :: b) o z (fun pre d ⟨b, eb⟩ => by
    have := h.d24
    have u := h.du
    have ok := h.dok d (by rw [eb]; simp)
    rw [eb] at this
    simp only [List.length_append, List.length_cons] at this
    unfold Lg.dn at u
    rw [eb, List.map_append, List.map_cons] at u
    have k := takes_D (ts := L.tw.map tD) (ds := pre.map dD) (by rw [List.length_map]; omega) (by rw [keys_D, inr_mem]; exact nodup_pre u) (by rw [keys_T, inr_mem]; exact ok.2.1) (h.tnm ok.2.1) ok
    simp only [List.map_append, List.map_cons, List.map_nil]
    exact k) L.dd [] (0 + (L.tw.map (fun t => D.str (lineT t))).length) x1 y1
    (pairsD (0 + (L.tw.map (fun t => D.str (lineT t))).length + (L.dd.map (fun d => D.str (lineD d))).length) (L.lt.map fun l => .str (lineL l)))
    (fun a b c e => ⟨b, by simpa using e⟩)
  simp only [List.nil_append, List.map_nil] at s2
  rw [s2]
  obtain ⟨x3, y3, s3⟩ := stage (line := lineL) (ts := fun _ => L.tw.map tD) (ds := fun _ => L.dd.map dD) (ls := fun l => l.map lD) (P := fun pre d => ∃ b, L.lt = pre ++ d :: b) o z (fun pre l ⟨b, eb⟩ => by
    have := h.l40
    have u := h.lu
    have ok := h.lok l (by rw [eb]; simp)
    rw [eb] at this
    simp only [List.length_append, List.length_cons] at this
    unfold Lg.ends at u
    rw [eb, List.map_append, List.map_cons] at u
    have k := takes_L (ts := L.tw.map tD) (ds := L.dd.map dD) (ls := pre.map lD) (by rw [List.length_map]; omega) (by rw [keys_L]; exact fun z => nodup_pre u (ends_mem.mp z)) (by rw [keys_D, inr_mem]; exact ok.2.1) (by rw [keys_D, inr_mem]; exact ok.2.2.1) (h.dnm ok.2.1) (h.dnm ok.2.2.1) ok
    simp only [List.map_append, List.map_cons, List.map_nil]
    exact k) L.lt [] (0 + (L.tw.map (fun t => D.str (lineT t))).length + (L.dd.map (fun d => D.str (lineD d))).length) x2 y2 []
    (fun a b c e => ⟨b, by simpa using e⟩)
  simp only [List.nil_append, List.map_nil, List.append_nil] at s3
  rw [s3]
  exact ⟨x3, y3, rfl⟩
@[simp] theorem ev_make {c : Str} {n : Nat} {mr : O → List D → Option (O × O)} {l : LE} {ρ : List W} : makeE c n mr l ρ = (match l ρ with | some (ds, ρ1) => if ds.length + 1 = n then (match mr (.ob c []) ds with | some (.sh .non, o) => some (o, ρ1) | _ => none) else none | none => none) := rfl
theorem rdO_frz (ts ds : List (Key × D)) (ls : List (List Key × D)) : (rdO ts ds ls).frz = .obj "LogReader" [("own_towns", .dk ts), ("own_deeds", .dk ds), ("own_letters", .dt ls)] := by
  unfold rdO
  simp [O.frz, O.frzL]
theorem n_log : ("own_text" : Str) ≠ "own_towns" ∧ ("own_text" : Str) ≠ "own_deeds" ∧ ("own_text" : Str) ≠ "own_letters" := by decide +kernel
theorem p_Log0 {L : Lg} (h : L.Ok) : m_Log__init_ (.ob "Log" []) [.str (textOf L)] = some (.sh .non, logO L) := by
  have q4 : isiD (.str (textOf L)) (.ty "str") = some (.bl true) := rfl
  obtain ⟨x', y', k⟩ := parse h (.ob "Log" []) (textOf L) W.un W.un
  have e1 := text_split h
  have e2 : (("\n" : Str)) = Str.ofString "\n" := rfl
  have r0 := p_rd0
  obtain ⟨a1, a2, a3⟩ := n_log
  unfold m_Log__init_ fnR g_Log__init_
  simp only [List.map_cons, List.map_nil, List.cons_append, List.nil_append, show (5 - 2 : Nat) = 3 from rfl, show List.replicate 3 W.un = [W.un, W.un, W.un] from rfl]
  have k2 : forS (itL enumD (consL (frE (m1E splitD (vE 1) (cE (D.str (Str.ofString "\n"))))) nilL)) (bT 2 (bCons (bN 3) (bCons (bN 4) bNil))) takB (loS (.ob "Log" []) (textOf L) (W.w false (rdO [] [] [])) W.un W.un) = some (.nx (loS (.ob "Log" []) (textOf L) (W.w false (rdO (L.tw.map tD) (L.dd.map dD) (L.lt.map lD))) x' y')) := by
    rw [← k]
    simp [e1, enumD]
  have s1 : ifS (notB (bE (frE (callB (sh2 isiD) (consL (vE 1) (consL (cE (D.ty "str")) nilL)))))) stuckS skipS [W.w true (O.ob "Log" []), W.w false (O.sh (D.str (textOf L))), W.un, W.un, W.un] = some (.nx [W.w true (O.ob "Log" []), W.w false (O.sh (D.str (textOf L))), W.un, W.un, W.un]) := by
    simp [q4]
  have s2 : asgS 2 (makeE "LogReader" 1 m_LogReader__init_ nilL) [W.w true (O.ob "Log" []), W.w false (O.sh (D.str (textOf L))), W.un, W.un, W.un] = some (.nx (loS (.ob "Log" []) (textOf L) (W.w false (rdO [] [] [])) W.un W.un)) := by
    simp [r0]
  simp only [ev_seq, s1, s2, k2]
  generalize hr : rdO (L.tw.map tD) (L.dd.map dD) (L.lt.map lD) = r
  have hf : r.frz = .obj "LogReader" [("own_towns", .dk (L.tw.map tD)), ("own_deeds", .dk (L.dd.map dD)), ("own_letters", .dt (L.lt.map lD))] := by rw [← hr, rdO_frz]
  have g1 : fget ("own_towns" : Str) [(("own_towns" : Str), D.dk (L.tw.map tD)), ("own_deeds", .dk (L.dd.map dD)), ("own_letters", .dt (L.lt.map lD))] = some (.dk (L.tw.map tD)) := by simp [fget]
  have g2 : fget ("own_deeds" : Str) [(("own_towns" : Str), D.dk (L.tw.map tD)), ("own_deeds", .dk (L.dd.map dD)), ("own_letters", .dt (L.lt.map lD))] = some (.dk (L.dd.map dD)) := by simp [fget, n_td]
  have g3 : fget ("own_letters" : Str) [(("own_towns" : Str), D.dk (L.tw.map tD)), ("own_deeds", .dk (L.dd.map dD)), ("own_letters", .dt (L.lt.map lD))] = some (.dt (L.lt.map lD)) := by simp [fget, n_tl, n_dl]
  simp [hf, g1, g2, g3, fput, a1, a2, a3, n_td, n_tl, n_dl, logO]
/-- Log(text) -/
theorem mk_Log {L : Lg} (h : L.Ok) {l : LE} {ρ ρ1 : List W} (hl : l ρ = some ([.str (textOf L)], ρ1)) : makeE "Log" 2 m_Log__init_ l ρ = some (logO L, ρ1) := by
  rw [ev_make, hl]
  simp [p_Log0 h]
end Mi
/-! text S17 -/
set_option linter.all false
set_option maxRecDepth 100000
set_option maxHeartbeats 1000000
namespace Mi
open PySem L2 Dl TL
/-! ### what a log tells -/
theorem kget_mem {κ α X : Type} [DecidableEq κ] {f : X → κ × α} : ∀ {l : List X}, (l.map fun x => (f x).1).Nodup → ∀ {x : X}, x ∈ l → kget (f x).1 (l.map f) = some (f x).2
  | [], _, _, h => nomatch h
  | y :: l, nd, x, h => by
    rw [List.map_cons] at nd ⊢
    unfold kget
    by_cases e : (f y).1 = (f x).1
    · rw [if_pos e]
      rcases List.mem_cons.mp h with z | z
      · subst z; rfl
      · have : (f y).1 ∉ l.map fun x => (f x).1 := (List.nodup_cons.mp nd).1
        rw [e] at this
        exact absurd (List.mem_map_of_mem z) this
    · rw [if_neg e]
      rcases List.mem_cons.mp h with z | z
      · subst z; exact absurd rfl e
      · exact kget_mem (List.nodup_cons.mp nd).2 z
theorem nodup_inr {l : List Str} (h : l.Nodup) : (l.map (Sum.inr : Str → Key)).Nodup := by
  refine List.pairwise_map.mpr (h.imp fun a b => ?_)
  cases b; exact a rfl
theorem Lg.Ok.getT {L : Lg} (h : L.Ok) {t : Tw} (ht : t ∈ L.tw) : kget (Sum.inr t.1 : Key) (L.tw.map tD) = some (tD t).2 :=
  kget_mem (f := tD) (by have := nodup_inr h.tu; unfold Lg.tn at this; rw [List.map_map] at this; exact this) ht
theorem Lg.Ok.getD {L : Lg} (h : L.Ok) {t : Dd} (ht : t ∈ L.dd) : kget (Sum.inr t.1 : Key) (L.dd.map dD) = some (dD t).2 :=
  kget_mem (f := dD) (by have := nodup_inr h.du; unfold Lg.dn at this; rw [List.map_map] at this; exact this) ht
theorem Lg.Ok.getL {L : Lg} (h : L.Ok) {t : Lt} (ht : t ∈ L.lt) : kget (lD t).1 (L.lt.map lD) = some (lD t).2 :=
  kget_mem (f := lD) (by
    have : (L.ends.map (fun e : Str × Str => ([.inr e.1, .inr e.2] : List Key))).Nodup := List.pairwise_map.mpr (h.lu.imp fun a b => by
      simp only [List.cons.injEq, Sum.inr.injEq, and_true] at b
      exact a (Prod.ext b.1 b.2))
    unfold Lg.ends at this
    rw [List.map_map] at this
    exact this) ht
@[simp] theorem lf_text (x : Str) (L : Lg) : fget "own_text" (logF x L) = some (.str x) := by simp [logF, fget]
@[simp] theorem lf_towns (x : Str) (L : Lg) : fget "own_towns" (logF x L) = some (.dk (L.tw.map tD)) := by simp [logF, fget, n_log]
@[simp] theorem lf_deeds (x : Str) (L : Lg) : fget "own_deeds" (logF x L) = some (.dk (L.dd.map dD)) := by simp [logF, fget, n_log, n_td]
@[simp] theorem lf_letters (x : Str) (L : Lg) : fget "own_letters" (logF x L) = some (.dt (L.lt.map lD)) := by simp [logF, fget, n_log, n_tl, n_dl]
theorem lf_no {m : Str} {x : Str} {L : Lg} (h : decide (("own_text" : Str) ≠ m ∧ ("own_towns" : Str) ≠ m ∧ ("own_deeds" : Str) ≠ m ∧ ("own_letters" : Str) ≠ m) = true) : fget m (logF x L) = none := by
  obtain ⟨h1, h2, h3, h4⟩ := of_decide_eq_true h
  simp [logF, fget, h1, h2, h3, h4]
@[simp] theorem lf_m1 (x : Str) (L : Lg) : fget "town_names" (logF x L) = none := lf_no (by decide +kernel)
@[simp] theorem lf_m2 (x : Str) (L : Lg) : fget "deed_names" (logF x L) = none := lf_no (by decide +kernel)
@[simp] theorem lf_m3 (x : Str) (L : Lg) : fget "bounds_at" (logF x L) = none := lf_no (by decide +kernel)
@[simp] theorem lf_m4 (x : Str) (L : Lg) : fget "town_at" (logF x L) = none := lf_no (by decide +kernel)
@[simp] theorem lf_m5 (x : Str) (L : Lg) : fget "shown_at" (logF x L) = none := lf_no (by decide +kernel)
def townD (t : Tw) : D := .tup [.str t.1, .int t.2.1, .int t.2.2]
def deedD (d : Dd) : D := .tup [.str d.1, .str d.2.1, .int d.2.2]
def letD (l : Lt) : D := .tup [.str l.1, .str l.2.1, .int l.2.2.1, oD l.2.2.2]
theorem keysO_dk {l : List (Key × D)} : keysO (.sh (.dk l)) = some (l.map fun p => kD p.1) := rfl
theorem keysO_dt {l : List (List Key × D)} : keysO (.sh (.dt l)) = some (l.map fun p => .tup (p.1.map kD)) := rfl
@[simp] theorem ev_itP {π : Pth} {ρ : List W} : itP π ρ = (match pget π ρ with | some o => (keysO o).map fun ds => (ds, ρ) | none => none) := rfl
theorem sub_dk {l : List (Key × D)} {n : Str} {d : D} (h : kget (Sum.inr n : Key) l = some d) : subD (.dk l) (.str n) = some d := by
  have e : subD (.dk l) (.str n) = (match (some (kget (Sum.inr n : Key) l)) with | some (some d) => some d | _ => none) := rfl
  rw [e, h]
theorem sub_dt {l : List (List Key × D)} {a b : Str} {d : D} (h : kget ([.inr a, .inr b] : List Key) l = some d) : subD (.dt l) (.tup [.str a, .str b]) = some d := by
  have e : subD (.dt l) (.tup [.str a, .str b]) = (match (some (kget ([.inr a, .inr b] : List Key) l)) with | some (some d) => some d | _ => none) := rfl
  rw [e, h]
theorem p_towns {L : Lg} (h : L.Ok) : m_Log_towns [logD L] = some (.sh (.tup (L.tw.map townD))) := by
  unfold m_Log_towns fnP g_Log_towns
  have e : lcE [1] (itP (.fd 0 "Log" "own_towns")) (bN 1) yesB (tupE (consL (vE 1) (starL (op2 subD (pE (.fd 0 "Log" "own_towns")) (vE 1)) nilL))) [W.w false (.sh (logD L)), W.un] = some (.ol (L.tw.map townD), [W.w false (.sh (logD L)), W.un]) := by
    refine lcE_map (xs := L.tw) (enc := fun t => .str t.1) (F := townD) (by simp [keysO_dk, tD, kD]) (decide_eq_true (by have := h.t8; omega)) fun t ht => ?_
    have e1 := sub_dk (h.getT ht)
    exact ⟨[W.w false (.sh (logD L)), W.w false (.sh (.str t.1))], [W.w false (.sh (logD L)), W.w false (.sh (.str t.1))], rfl, by simp [e1, tD, townD, small], rfl⟩
  simp [e, tupleD]
theorem p_deeds {L : Lg} (h : L.Ok) : m_Log_deeds [logD L] = some (.sh (.tup (L.dd.map deedD))) := by
  unfold m_Log_deeds fnP g_Log_deeds
  have e : lcE [1] (itP (.fd 0 "Log" "own_deeds")) (bN 1) yesB (tupE (consL (vE 1) (starL (op2 subD (pE (.fd 0 "Log" "own_deeds")) (vE 1)) nilL))) [W.w false (.sh (logD L)), W.un] = some (.ol (L.dd.map deedD), [W.w false (.sh (logD L)), W.un]) := by
    refine lcE_map (xs := L.dd) (enc := fun t => .str t.1) (F := deedD) (by simp [keysO_dk, dD, kD]) (decide_eq_true (by have := h.d24; omega)) fun t ht => ?_
    have e1 := sub_dk (h.getD ht)
    exact ⟨[W.w false (.sh (logD L)), W.w false (.sh (.str t.1))], [W.w false (.sh (logD L)), W.w false (.sh (.str t.1))], rfl, by simp [e1, dD, deedD, small], rfl⟩
  simp [e, tupleD]
theorem p_letters {L : Lg} (h : L.Ok) : m_Log_letters [logD L] = some (.sh (.tup (L.lt.map letD))) := by
  unfold m_Log_letters fnP g_Log_letters
  have e : lcE [1] (itP (.fd 0 "Log" "own_letters")) (bN 1) yesB (tupE (starL (vE 1) (starL (op2 subD (pE (.fd 0 "Log" "own_letters")) (vE 1)) nilL))) [W.w false (.sh (logD L)), W.un] = some (.ol (L.lt.map letD), [W.w false (.sh (logD L)), W.un]) := by
    refine lcE_map (xs := L.lt) (enc := fun t => .tup [.str t.1, .str t.2.1]) (F := letD) (by simp [keysO_dt, lD, kD]) (decide_eq_true (by have := h.l40; omega)) fun t ht => ?_
    have e1 := sub_dt (h.getL ht)
    exact ⟨[W.w false (.sh (logD L)), W.w false (.sh (.tup [.str t.1, .str t.2.1]))], [W.w false (.sh (logD L)), W.w false (.sh (.tup [.str t.1, .str t.2.1]))], rfl, by simp [e1, lD, letD, small], rfl⟩
  simp [e, tupleD]
def strsL (l : List Str) : List D := l.map D.str
theorem p_town_names (L : Lg) : m_Log_town_names [logD L] = some (.ol (strsL L.tn)) := by
  unfold m_Log_town_names fnP g_Log_town_names
  have e : orC listO (orC listK listT) [.dk (L.tw.map tD)] = some (.ol (strsL L.tn)) := by
    show some (O.ol ((L.tw.map tD).map fun p => kD p.1)) = _
    rw [List.map_map]
    unfold strsL Lg.tn
    rw [List.map_map]
    rfl
  simp [e]
theorem p_deed_names (L : Lg) : m_Log_deed_names [logD L] = some (.ol (strsL L.dn)) := by
  unfold m_Log_deed_names fnP g_Log_deed_names
  have e : orC listO (orC listK listT) [.dk (L.dd.map dD)] = some (.ol (strsL L.dn)) := by
    show some (O.ol ((L.dd.map dD).map fun p => kD p.1)) = _
    rw [List.map_map]
    unfold strsL Lg.dn
    rw [List.map_map]
    rfl
  simp [e]
theorem p_town_at {L : Lg} (h : L.Ok) {d : Dd} (hd : d ∈ L.dd) : m_Log_town_at [logD L, .str d.1] = some (.sh (.str d.2.1)) := by
  have e1 := sub_dk (h.getD hd)
  unfold m_Log_town_at fnP g_Log_town_at
  simp [e1, dD]
theorem p_shown_at {L : Lg} (h : L.Ok) {d : Dd} (hd : d ∈ L.dd) : m_Log_shown_at [logD L, .str d.1] = some (.sh (.int d.2.2)) := by
  have e1 := sub_dk (h.getD hd)
  unfold m_Log_shown_at fnP g_Log_shown_at
  simp [e1, dD]
theorem p_check_log (L : Lg) : m_check_log [logD L] = some (.sh .non) := by
  unfold m_check_log fnP g_check_log
  simp
theorem strs_fl (l : List Str) : (strsL l).all inSeq.flD = true := by
  unfold strsL
  rw [List.all_map]
  exact List.all_eq_true.mpr fun _ _ => rfl
theorem strs_any (n : Str) (l : List Str) : ((strsL l).any fun z => inSeq.eqF z (.str n)) = decide (n ∈ l) := by
  induction l with
  | nil => rfl
  | cons x r ih =>
    show (inSeq.eqF (.str x) (.str n) || (strsL r).any fun z => inSeq.eqF z (.str n)) = _
    rw [ih]
    have : inSeq.eqF (.str x) (.str n) = (x == n) := rfl
    rw [this, beq_str]
    by_cases h : x = n
    · subst h; simp
    · have h' : ¬ n = x := fun e => h e.symm
      simp [h, h']
theorem in_strs {n : Str} {l : List Str} (neg : Bool) : inD neg (.str n) (.lst (strsL l)) = some (.bl (if neg then !decide (n ∈ l) else decide (n ∈ l))) := by
  have e : inD neg (.str n) (.lst (strsL l)) = (match (if inSeq.flD (.str n) && (strsL l).all inSeq.flD then some (D.bl (if neg then !((strsL l).any fun z => inSeq.eqF z (.str n)) else (strsL l).any fun z => inSeq.eqF z (.str n))) else none) with | some z => some z | none => (orF (inStr neg) (inDict neg)) (.str n) (.lst (strsL l))) := rfl
  rw [e, strs_fl, strs_any]
  rfl
theorem in_strsT {n : Str} {l : List Str} (neg : Bool) : inD neg (.str n) (.tup (strsL l)) = some (.bl (if neg then !decide (n ∈ l) else decide (n ∈ l))) := by
  have e : inD neg (.str n) (.tup (strsL l)) = (match (if inSeq.flD (.str n) && (strsL l).all inSeq.flD then some (D.bl (if neg then !((strsL l).any fun z => inSeq.eqF z (.str n)) else (strsL l).any fun z => inSeq.eqF z (.str n))) else none) with | some z => some z | none => (orF (inStr neg) (inDict neg)) (.str n) (.tup (strsL l))) := rfl
  rw [e, strs_fl, strs_any]
  rfl
theorem p_check_deed {L : Lg} {n : Str} (hn : n ∈ L.dn) : m_check_deed [logD L, .str n] = some (.sh .non) := by
  have q4 : isiD (.str n) (.ty "str") = some (.bl true) := rfl
  unfold m_check_deed fnP g_check_deed
  simp [p_check_log, q4, p_deed_names, in_strs, hn]
end Mi
/-! text S18 -/
set_option linter.all false
set_option maxRecDepth 100000
set_option maxHeartbeats 1000000
namespace Mi
open PySem L2 Dl TL
/-- a loop, by what stands behind each part of it -/
theorem forR_rel {X : Type} {b : D → List W → Option (List W)} {body : DS} {enc : X → D} (I : List X → List W → Prop) : ∀ (post pre : List X) (ρ : List W),
    (∀ a x c ρ, post = a ++ x :: c → I (pre ++ a) ρ → ∃ ρ1 ρ2, b (enc x) ρ = some ρ1 ∧ body ρ1 = some (.nx ρ2) ∧ I (pre ++ a ++ [x]) ρ2) →
    I pre ρ → ∃ ρ2, forR b body (post.map enc) ρ = some (.nx ρ2) ∧ I (pre ++ post) ρ2
  | [], pre, ρ, _, h => ⟨ρ, rfl, by simpa using h⟩
  | x :: post, pre, ρ, hs, h => by
    obtain ⟨ρ1, ρ2, e1, e2, i2⟩ := hs [] x post ρ rfl (by simpa using h)
    obtain ⟨ρ3, e3, i3⟩ := forR_rel I post (pre ++ [x]) ρ2 (fun a y c ρ e i => by
      have := hs (x :: a) y c ρ (by rw [e]; rfl) (by simpa using i)
      simpa using this) (by simpa using i2)
    refine ⟨ρ3, ?_, by simpa using i3⟩
    rw [List.map_cons]
    unfold forR
    rw [e1]
    dsimp only
    rw [e2]
    exact e3
theorem forR_rel0 {X : Type} {b : D → List W → Option (List W)} {body : DS} {enc : X → D} {l : List X} {ρ : List W} (I : List X → List W → Prop)
    (hs : ∀ a x c ρ, l = a ++ x :: c → I a ρ → ∃ ρ1 ρ2, b (enc x) ρ = some ρ1 ∧ body ρ1 = some (.nx ρ2) ∧ I (a ++ [x]) ρ2) (h : I [] ρ) : ∃ ρ2, forR b body (l.map enc) ρ = some (.nx ρ2) ∧ I l ρ2 := by
  have := forR_rel I l [] ρ (fun a x c ρ e i => by simpa using hs a x c ρ e (by simpa using i)) h
  simpa using this
/-! ### steps -/
abbrev Sp := Str × Str × Int × D
def spD (s : Sp) : D := .tup [.str s.1, .str s.2.1, .int s.2.2.1, s.2.2.2]
def Lg.at (L : Lg) (n : Str) : Str := ((L.dd.find? fun d => decide (d.1 = n)).map (·.2.1)).getD "."
def Lg.sh (L : Lg) (n : Str) : Int := ((L.dd.find? fun d => decide (d.1 = n)).map (·.2.2)).getD 0
theorem Lg.Ok.find {L : Lg} (h : L.Ok) {d : Dd} (hd : d ∈ L.dd) : L.dd.find? (fun e => decide (e.1 = d.1)) = some d := by
  have u := h.du
  unfold Lg.dn at u
  have key : ∀ l : List Dd, (l.map (·.1)).Nodup → d ∈ l → l.find? (fun e => decide (e.1 = d.1)) = some d := by
    intro l
    induction l with
    | nil => intro _ z; cases z
    | cons x r ih =>
      intro nd hm
      rw [List.map_cons] at nd
      rw [List.find?_cons]
      by_cases e : x.1 = d.1
      · rw [decide_eq_true e]
        rcases List.mem_cons.mp hm with z | z
        · rw [z]
        · exact absurd (List.mem_map_of_mem z) (e ▸ (List.nodup_cons.mp nd).1)
      · rw [decide_eq_false e]
        rcases List.mem_cons.mp hm with z | z
        · subst z; exact absurd rfl e
        · exact ih (List.nodup_cons.mp nd).2 z
  exact key _ u hd
theorem Lg.Ok.at_ {L : Lg} (h : L.Ok) {d : Dd} (hd : d ∈ L.dd) : L.at d.1 = d.2.1 := by unfold Lg.at; rw [h.find hd]; rfl
theorem Lg.Ok.sh_ {L : Lg} (h : L.Ok) {d : Dd} (hd : d ∈ L.dd) : L.sh d.1 = d.2.2 := by unfold Lg.sh; rw [h.find hd]; rfl
theorem p_town_at' {L : Lg} (h : L.Ok) {n : Str} (hn : n ∈ L.dn) : m_Log_town_at [logD L, .str n] = some (.sh (.str (L.at n))) := by
  obtain ⟨d, hd, rfl⟩ := List.mem_map.mp hn
  rw [p_town_at h hd, h.at_ hd]
theorem p_shown_at' {L : Lg} (h : L.Ok) {n : Str} (hn : n ∈ L.dn) : m_Log_shown_at [logD L, .str n] = some (.sh (.int (L.sh n))) := by
  obtain ⟨d, hd, rfl⟩ := List.mem_map.mp hn
  rw [p_shown_at h hd, h.sh_ hd]
theorem Lg.Ok.at_mem {L : Lg} (h : L.Ok) {n : Str} (hn : n ∈ L.dn) : L.at n ∈ L.tn := by
  obtain ⟨d, hd, rfl⟩ := List.mem_map.mp hn
  rw [h.at_ hd]
  exact (h.dok d hd).2.1
def townSp (t : Tw) : List Sp := [(".", t.1, t.2.1, .tup [.str "low", .str t.1]), (t.1, ".", 0 - t.2.2, .tup [.str "high", .str t.1])]
def overL (L : Lg) (l : Lt) : Int := L.sh l.2.1 - L.sh l.1
def letSp (L : Lg) (l : Lt) : List Sp := (L.at l.2.1, L.at l.1, l.2.2.1 - overL L l, .tup [.str "least", .str l.1, .str l.2.1]) ::
  match l.2.2.2 with
  | none => []
  | some m => [(L.at l.1, L.at l.2.1, overL L l - m, .tup [.str "most", .str l.1, .str l.2.1])]
def stepsL (L : Lg) : List Sp := L.tw.flatMap townSp ++ L.lt.flatMap (letSp L)
def clocksL (L : Lg) : List Str := "." :: L.tn
theorem p_clocks_of {L : Lg} (h : L.Ok) : m_clocks_of [logD L] = some (.ol (strsL (clocksL L))) := by
  have : L.tn.length + 1 ≤ 100000 := by have := h.t8; unfold Lg.tn; rw [List.length_map]; omega
  unfold m_clocks_of fnP g_clocks_of
  simp [p_town_names, this, strsL, clocksL, small]
theorem town_sps_len (l : List Tw) : (l.flatMap townSp).length = 2 * l.length := by
  induction l with
  | nil => rfl
  | cons x r ih => simp only [List.flatMap_cons, List.length_append, ih, List.length_cons, townSp, List.length_nil]; omega
theorem let_sps_len (L : Lg) (l : List Lt) : (l.flatMap (letSp L)).length ≤ 2 * l.length := by
  induction l with
  | nil => exact Nat.le_refl _
  | cons x r ih =>
    have : (letSp L x).length ≤ 2 := by
      unfold letSp
      split <;> simp
    simp only [List.flatMap_cons, List.length_append, List.length_cons]
    omega
theorem steps_len {L : Lg} (h : L.Ok) : (stepsL L).length ≤ 96 := by
  have := town_sps_len L.tw; have := let_sps_len L L.lt; have := h.t8; have := h.l40
  unfold stepsL
  rw [List.length_append]
  omega
abbrev stS (L : Lg) (acc : List Sp) (r : List W) : List W := W.w false (.sh (logD L)) :: W.w false (.ol (acc.map spD)) :: r
theorem p_steps_of {L : Lg} (h : L.Ok) : m_steps_of [logD L] = some (.ol ((stepsL L).map spD)) := by
  obtain ⟨ρ1, e1, x, y, z, rfl⟩ := forR_rel0 (l := L.tw) (enc := townD) (b := bT 3 (bCons (bN 2) (bCons (bN 3) (bCons (bN 4) bNil))))
    (body := seqS (appS (.sl 1) (tupE (consL (cE (.str ".")) (consL (vE 2) (consL (vE 3) (consL (tupE (consL (cE (.str "low")) (consL (vE 2) nilL))) nilL))))))
      (appS (.sl 1) (tupE (consL (vE 2) (consL (cE (.str ".")) (consL (op2 subI (cE (.int 0)) (vE 4)) (consL (tupE (consL (cE (.str "high")) (consL (vE 2) nilL))) nilL)))))))
    (fun a ρ => ∃ x y z, ρ = stS L (a.flatMap townSp) [x, y, z, W.un, W.un, W.un, W.un, W.un, W.un, W.un]) (ρ := stS L [] [W.un, W.un, W.un, W.un, W.un, W.un, W.un, W.un, W.un, W.un])
    (fun a t c ρ e ⟨x, y, z, er⟩ => by
      subst er
      have hl := town_sps_len a
      have h8 := h.t8
      rw [e] at h8
      simp only [List.length_append, List.length_cons] at h8
      have s1 : (a.flatMap townSp).length ≤ 100000 := by omega
      have s2 : (a.flatMap townSp).length + 1 ≤ 100000 := by omega
      refine ⟨stS L (a.flatMap townSp) [W.w false (.sh (.str t.1)), W.w false (.sh (.int t.2.1)), W.w false (.sh (.int t.2.2)), W.un, W.un, W.un, W.un, W.un, W.un, W.un], stS L ((a ++ [t]).flatMap townSp) [W.w false (.sh (.str t.1)), W.w false (.sh (.int t.2.1)), W.w false (.sh (.int t.2.2)), W.un, W.un, W.un, W.un, W.un, W.un, W.un], rfl, ?_, _, _, _, rfl⟩
      simp only [List.flatMap_append, List.flatMap_cons, List.flatMap_nil, List.append_nil]
      generalize a.flatMap townSp = ac at s1 s2
      simp [s1, s2, small, stS, townSp, spD])
    ⟨_, _, _, rfl⟩
  obtain ⟨ρ2, e2, w1, w2, w3, w4, w5, w6, w7, b5, b6, b7, rfl⟩ := forR_rel0 (l := L.lt) (enc := letD) (b := bT 4 (bCons (bN 5) (bCons (bN 6) (bCons (bN 7) (bCons (bN 8) bNil)))))
    (body := seqS (parO 10 11 (consO (shE (frE (methP "Log" "town_at" 2 m_Log_town_at (vE 0) (consL (vE 5) nilL)))) (consO (shE (frE (methP "Log" "town_at" 2 m_Log_town_at (vE 0) (consL (vE 6) nilL)))) nilO)))
  (seqS (asgS 9 (shE (op2 subI (frE (methP "Log" "shown_at" 2 m_Log_shown_at (vE 0) (consL (vE 6) nilL))) (frE (methP "Log" "shown_at" 2 m_Log_shown_at (vE 0) (consL (vE 5) nilL))))))
  (seqS (appS (.sl 1) (tupE (consL (vE 11) (consL (vE 10) (consL (op2 subI (vE 7) (vE 9)) (consL (tupE (consL (cE (.str "least")) (consL (vE 5) (consL (vE 6) nilL)))) nilL))))))
  (ifS (bE (op2 (isD true) (vE 8) (cE .non)))
  (appS (.sl 1) (tupE (consL (vE 10) (consL (vE 11) (consL (op2 subI (vE 9) (vE 8)) (consL (tupE (consL (cE (.str "most")) (consL (vE 5) (consL (vE 6) nilL)))) nilL))))))
  skipS))))
    (fun a ρ => ∃ w1 w2 w3 w4 w5 w6 w7, nb [w5] 0 = true ∧ nb [w6] 0 = true ∧ nb [w7] 0 = true ∧ ρ = stS L (L.tw.flatMap townSp ++ a.flatMap (letSp L)) [x, y, z, w1, w2, w3, w4, w5, w6, w7]) (ρ := stS L (L.tw.flatMap townSp) [x, y, z, W.un, W.un, W.un, W.un, W.un, W.un, W.un])
    (fun a l c ρ e ⟨w1, w2, w3, w4, w5, w6, w7, b5, b6, b7, er⟩ => by
      subst er
      have hl := town_sps_len L.tw
      have hl2 := let_sps_len L a
      have h8 := h.t8
      have h40 := h.l40
      obtain ⟨k0, k1, k2, k3, k4, k5⟩ := h.lok l (by rw [e]; simp)
      rw [e] at h40
      simp only [List.length_append, List.length_cons] at h40
      have s1 : (L.tw.flatMap townSp ++ a.flatMap (letSp L)).length ≤ 100000 := by rw [List.length_append]; omega
      have s2 : (L.tw.flatMap townSp ++ a.flatMap (letSp L)).length + 1 ≤ 100000 := by rw [List.length_append]; omega
      have a1 := p_town_at' h k1
      have a2 := p_town_at' h k2
      have a3 := p_shown_at' h k1
      have a4 := p_shown_at' h k2
      have n5 : ∀ r, nb (w5 :: r) 0 = true := fun _ => b5
      have n6 : ∀ r, nb (w6 :: r) 0 = true := fun _ => b6
      have n7 : ∀ r, nb (w7 :: r) 0 = true := fun _ => b7
      refine ⟨stS L (L.tw.flatMap townSp ++ a.flatMap (letSp L)) [x, y, z, W.w false (.sh (.str l.1)), W.w false (.sh (.str l.2.1)), W.w false (.sh (.int l.2.2.1)), W.w false (.sh (oD l.2.2.2)), w5, w6, w7],
        stS L (L.tw.flatMap townSp ++ (a ++ [l]).flatMap (letSp L)) [x, y, z, W.w false (.sh (.str l.1)), W.w false (.sh (.str l.2.1)), W.w false (.sh (.int l.2.2.1)), W.w false (.sh (oD l.2.2.2)), W.w false (.sh (.int (overL L l))), W.w false (.sh (.str (L.at l.1))), W.w false (.sh (.str (L.at l.2.1)))], rfl, ?_, _, _, _, _, _, _, _, rfl, rfl, rfl, rfl⟩
      simp only [List.flatMap_append, List.flatMap_cons, List.flatMap_nil, List.append_nil, ← List.append_assoc]
      generalize L.tw.flatMap townSp ++ a.flatMap (letSp L) = ac at s1 s2
      cases hm : l.2.2.2 with
      | none => simp [s1, s2, small, stS, letSp, spD, a1, a2, a3, a4, n5, n6, n7, isD, oD, Dl.isNon, hm, overL]
      | some m => simp [s1, s2, small, stS, letSp, spD, a1, a2, a3, a4, n5, n6, n7, isD, oD, Dl.isNon, hm, overL])
    ⟨W.un, W.un, W.un, W.un, W.un, W.un, W.un, rfl, rfl, rfl, by simp⟩
  unfold m_steps_of fnP g_steps_of
  simp only [List.map_cons, List.map_nil, List.cons_append, List.nil_append, show (12 - 1 : Nat) = 11 from rfl, show List.replicate 11 W.un = [W.un, W.un, W.un, W.un, W.un, W.un, W.un, W.un, W.un, W.un, W.un] from rfl]
  have s0 : asgS 1 (lstE nilL) [W.w false (.sh (logD L)), W.un, W.un, W.un, W.un, W.un, W.un, W.un, W.un, W.un, W.un, W.un] = some (.nx (stS L [] [W.un, W.un, W.un, W.un, W.un, W.un, W.un, W.un, W.un, W.un])) := by simp [small]
  have t0 : ∀ ac r, itE seqS' (frE (propE "Log" m_Log_towns (vE 0))) (stS L ac r) = some (L.tw.map townD, stS L ac r) := fun ac r => by simp [p_towns h, seqS', seqD]
  have t1 : ∀ ac r, itE seqS' (frE (propE "Log" m_Log_letters (vE 0))) (stS L ac r) = some (L.lt.map letD, stS L ac r) := fun ac r => by simp [p_letters h, seqS', seqD]
  simp only [ev_seq, s0, ev_for, t0, e1, t1, e2]
  simp [stepsL]
end Mi
/-! text S19 -/
set_option linter.all false
set_option maxRecDepth 100000
set_option maxHeartbeats 1000000
namespace Mi
open PySem L2 Dl TL
/-! ### laps over all steps (plain) -/
structure BF where
  a : Str → Int
  B : Str → Option Sp
  last : Option Str
def updF {β : Type} (f : Str → β) (v : Str) (x : β) : Str → β := fun w => if w = v then x else f w
@[simp] theorem updF_same {β : Type} {f : Str → β} {v : Str} {x : β} : updF f v x v = x := if_pos rfl
theorem updF_ne {β : Type} {f : Str → β} {v w : Str} {x : β} (h : w ≠ v) : updF f v x w = f w := if_neg h
def bfStep (st : BF) (s : Sp) : BF := if st.a s.1 + s.2.2.1 > st.a s.2.1 then ⟨updF st.a s.2.1 (st.a s.1 + s.2.2.1), updF st.B s.2.1 (some s), some s.2.1⟩ else st
structure BInv (S : List Sp) (k : Nat) (done : List Sp) (st : BF) (T Lp : Str → Nat) (now : Nat) : Prop where
  bk : ∀ v s, st.B v = some s → s ∈ S ∧ s.2.1 = v ∧ st.a v ≤ st.a s.1 + s.2.2.1 ∧ (st.a v = st.a s.1 + s.2.2.1 → T s.1 < T v) ∧ Lp v ≤ Lp s.1 + 1
  no : ∀ v, st.B v = none → Lp v = 0
  tn : ∀ v, T v ≤ now
  lk : ∀ v, Lp v ≤ k
  rel : ∀ s ∈ S, Lp s.1 + 2 ≤ k → st.a s.1 + s.2.2.1 ≤ st.a s.2.1
  pro : ∀ s ∈ done, Lp s.1 + 1 ≤ k → st.a s.1 + s.2.2.1 ≤ st.a s.2.1
  lno : st.last = none → ∀ s ∈ done, st.a s.1 + s.2.2.1 ≤ st.a s.2.1
  lso : ∀ v, st.last = some v → Lp v = k
theorem BInv.step {S : List Sp} {k : Nat} {done : List Sp} {st : BF} {T Lp : Str → Nat} {now : Nat} (h : BInv S k done st T Lp now) {s : Sp} (hs : s ∈ S) (k1 : 1 ≤ k) : ∃ T' Lp' now', BInv S k (done ++ [s]) (bfStep st s) T' Lp' now' := by
  unfold bfStep
  by_cases hc : st.a s.1 + s.2.2.1 > st.a s.2.1
  · rw [if_pos hc]
    have hL : k ≤ Lp s.1 + 1 := by
      by_cases q : Lp s.1 + 2 ≤ k
      · have := h.rel s hs q; omega
      · omega
    have mono : ∀ w, st.a w ≤ updF st.a s.2.1 (st.a s.1 + s.2.2.1) w := fun w => by
      by_cases e : w = s.2.1
      · subst e; rw [updF_same]; omega
      · rw [updF_ne e]; exact Int.le_refl _
    refine ⟨updF T s.2.1 (now + 1), updF Lp s.2.1 k, now + 1, ⟨?_, ?_, ?_, ?_, ?_, ?_, ?_, ?_⟩⟩
    · intro v r hr
      dsimp only at hr ⊢
      by_cases e : v = s.2.1
      · subst e
        rw [updF_same] at hr
        cases hr
        rw [updF_same, updF_same, updF_same]
        refine ⟨hs, rfl, ?_, ?_, ?_⟩
        · by_cases e2 : s.1 = s.2.1
          · rw [e2, updF_same]; rw [e2] at hc; omega
          · rw [updF_ne e2]; exact Int.le_refl _
        · intro q
          by_cases e2 : s.1 = s.2.1
          · rw [e2, updF_same] at q; rw [e2] at hc; omega
          · rw [updF_ne e2]; have := h.tn s.1; omega
        · by_cases e2 : s.1 = s.2.1
          · rw [e2, updF_same]; omega
          · rw [updF_ne e2]; exact hL
      · rw [updF_ne e] at hr
        obtain ⟨b1, b2, b3, b4, b5⟩ := h.bk v r hr
        rw [updF_ne e, updF_ne e, updF_ne e]
        refine ⟨b1, b2, ?_, ?_, ?_⟩
        · have := mono r.1; omega
        · by_cases e2 : r.1 = s.2.1
          · rw [e2, updF_same]; rw [e2] at b3; intro q; omega
          · rw [updF_ne e2, updF_ne e2]; exact b4
        · by_cases e2 : r.1 = s.2.1
          · rw [e2, updF_same]; have := h.lk v; omega
          · rw [updF_ne e2]; exact b5
    · intro v hv
      dsimp only at hv
      by_cases e : v = s.2.1
      · subst e; rw [updF_same] at hv; cases hv
      · rw [updF_ne e] at hv ⊢; exact h.no v hv
    · intro v
      by_cases e : v = s.2.1
      · subst e; rw [updF_same]; omega
      · rw [updF_ne e]; have := h.tn v; omega
    · intro v
      by_cases e : v = s.2.1
      · subst e; rw [updF_same]; omega
      · rw [updF_ne e]; exact h.lk v
    · intro r hr q
      dsimp only
      have e : r.1 ≠ s.2.1 := fun e => by rw [e, updF_same] at q; omega
      rw [updF_ne e] at q ⊢
      have := h.rel r hr q; have := mono r.2.1; omega
    · intro r hr q
      dsimp only
      have e : r.1 ≠ s.2.1 := fun e => by rw [e, updF_same] at q; omega
      rw [updF_ne e] at q ⊢
      rcases List.mem_append.mp hr with hr | hr
      · have := h.pro r hr q; have := mono r.2.1; omega
      · have : r = s := by simpa using hr
        subst this
        rw [updF_same]; exact Int.le_refl _
    · intro q; cases q
    · intro v q
      cases q
      rw [updF_same]
  · rw [if_neg hc]
    refine ⟨T, Lp, now, ⟨h.bk, h.no, h.tn, h.lk, h.rel, ?_, ?_, h.lso⟩⟩
    · intro r hr q
      rcases List.mem_append.mp hr with hr | hr
      · exact h.pro r hr q
      · have : r = s := by simpa using hr
        subst this; omega
    · intro q r hr
      rcases List.mem_append.mp hr with hr | hr
      · exact h.lno q r hr
      · have : r = s := by simpa using hr
        subst this; omega
/-- behind a lap: the next one begins -/
theorem BInv.next {S : List Sp} {k : Nat} {st : BF} {T Lp : Str → Nat} {now : Nat} (h : BInv S k S st T Lp now) : BInv S (k + 1) [] { st with last := none } T Lp now where
  bk := h.bk
  no := h.no
  tn := h.tn
  lk := fun v => Nat.le_succ_of_le (h.lk v)
  rel := fun s hs q => h.pro s hs (by omega)
  pro := fun s hs => by cases hs
  lno := fun _ s hs => by cases hs
  lso := fun v q => by cases q
theorem BInv.zero (S : List Sp) : BInv S 1 [] ⟨fun _ => 0, fun _ => none, none⟩ (fun _ => 0) (fun _ => 0) 0 where
  bk := fun v s q => by cases q
  no := fun _ _ => rfl
  tn := fun _ => Nat.le_refl _
  lk := fun _ => Nat.zero_le _
  rel := fun s hs q => by omega
  pro := fun s hs => by cases hs
  lno := fun _ s hs => by cases hs
  lso := fun v q => by cases q
/-! ### the ring -/
def bN' (B : Str → Option Sp) (v : Str) : Str := ((B v).map (·.1)).getD v
def itB (B : Str → Option Sp) : Nat → Str → Str
  | 0, v => v
  | n + 1, v => itB B n (bN' B v)
theorem itB_add (B : Str → Option Sp) : ∀ (m n : Nat) (v : Str), itB B (m + n) v = itB B n (itB B m v)
  | 0, n, v => by rw [Nat.zero_add]; rfl
  | m + 1, n, v => by
    rw [show m + 1 + n = (m + n) + 1 from by omega]
    show itB B (m + n) (bN' B v) = itB B n (itB B m (bN' B v))
    exact itB_add B m n _
theorem itB_succ (B : Str → Option Sp) (n : Nat) (v : Str) : itB B (n + 1) v = bN' B (itB B n v) := by rw [itB_add]; rfl
theorem walkB {S : List Sp} {k : Nat} {done : List Sp} {st : BF} {T Lp : Str → Nat} {now : Nat} (h : BInv S k done st T Lp now) : ∀ (i : Nat) (v : Str), i < Lp v → Lp v ≤ Lp (itB st.B i v) + i
  | 0, v, _ => by simp [itB]
  | i + 1, v, hi => by
    rw [itB_succ]
    have ih := walkB h i v (by omega)
    cases e : st.B (itB st.B i v) with
    | none => have := h.no _ e; omega
    | some s =>
      have := (h.bk _ s e).2.2.2.2
      unfold bN'
      rw [e]
      show Lp v ≤ Lp s.1 + (i + 1)
      omega
/-- pigeons -/
theorem pigeon {C : List Str} : ∀ (n : Nat) (f : Nat → Str), C.length ≤ n → (∀ i, i ≤ n → f i ∈ C) → ∃ i j, i < j ∧ j ≤ n ∧ f i = f j := by
  intro n f hn hf
  by_cases hd : ((List.range (n + 1)).map f).Nodup
  · have : ((List.range (n + 1)).map f).length ≤ C.length := by
      refine List.Nodup.length_le_of_subset hd ?_
      intro x hx
      obtain ⟨i, hi, rfl⟩ := List.mem_map.mp hx
      have := List.mem_range.mp hi
      exact hf i (by omega)
    rw [List.length_map, List.length_range] at this
    omega
  · unfold List.Nodup at hd
    rw [List.pairwise_map, List.pairwise_iff_getElem] at hd
    simp only [List.length_range, List.getElem_range, Classical.not_forall, Classical.not_not] at hd
    obtain ⟨i, j, hi, hj, hij, e⟩ := hd
    exact ⟨i, j, hij, by omega, e⟩
end Mi
/-! text S20 -/
set_option linter.all false
set_option maxRecDepth 100000
set_option maxHeartbeats 1000000
namespace Mi
open PySem L2 Dl TL
theorem least_of {P : Nat → Prop} : ∀ {n : Nat}, P n → ∃ m, m ≤ n ∧ P m ∧ ∀ i, i < m → ¬ P i := by
  intro n
  induction n using Nat.strongRecOn with
  | ind n ih =>
    intro hn
    by_cases h : ∃ i, i < n ∧ P i
    · obtain ⟨i, h1, h2⟩ := h
      obtain ⟨m, h3, h4, h5⟩ := ih i h1 h2
      exact ⟨m, by omega, h4, h5⟩
    · exact ⟨n, Nat.le_refl _, hn, fun i hi hp => h ⟨i, hi, hp⟩⟩
def ringL (B : Str → Option Sp) : Nat → Str → List Sp
  | 0, _ => []
  | n + 1, v => match B v with
    | none => []
    | some s => s :: ringL B n s.1
theorem ringL_next {B : Str → Option Sp} {v : Str} {s : Sp} (e : B v = some s) (m : Nat) : ringL B (m + 1) v = s :: ringL B m s.1 := by
  conv => lhs; unfold ringL
  rw [e]
def bySum (l : List Sp) : Int := (l.map (·.2.2.1)).sum
/-- v steps back, each told -/
def AllB (B : Str → Option Sp) (v : Str) : Prop := ∀ m, ∃ s, B (itB B m v) = some s
theorem AllB.next {B : Str → Option Sp} {v : Str} {s : Sp} (h : AllB B v) (e : B v = some s) : AllB B s.1 := fun m => by
  have := h (m + 1)
  rw [show m + 1 = 1 + m from by omega, itB_add] at this
  have e2 : itB B 1 v = s.1 := by show bN' B v = s.1; unfold bN'; rw [e]; rfl
  rwa [e2] at this
theorem itB_next {B : Str → Option Sp} {v : Str} {s : Sp} (e : B v = some s) (m : Nat) : itB B (m + 1) v = itB B m s.1 := by
  show itB B m (bN' B v) = _
  unfold bN'
  rw [e]; rfl
theorem BInv.sum {S : List Sp} {k : Nat} {done : List Sp} {st : BF} {T Lp : Str → Nat} {now : Nat} (h : BInv S k done st T Lp now) : ∀ (m : Nat) (v : Str), AllB st.B v → st.a v ≤ st.a (itB st.B m v) + bySum (ringL st.B m v) ∧ (st.a v = st.a (itB st.B m v) + bySum (ringL st.B m v) → T (itB st.B m v) + m ≤ T v)
  | 0, v, _ => by simp [itB, ringL, bySum]
  | m + 1, v, ha => by
    obtain ⟨s, e⟩ := ha 0
    change st.B v = some s at e
    obtain ⟨h1, h2, h3, h4, h5⟩ := h.bk v s e
    obtain ⟨i1, i2⟩ := BInv.sum h m s.1 (ha.next e)
    rw [itB_next e]
    have er := ringL_next e m
    rw [er]
    have es : bySum (s :: ringL st.B m s.1) = s.2.2.1 + bySum (ringL st.B m s.1) := by simp [bySum]
    rw [es]
    refine ⟨by omega, fun q => ?_⟩
    have q1 : st.a v = st.a s.1 + s.2.2.1 := by omega
    have q2 := h4 q1
    have q3 := i2 (by omega)
    omega
theorem pot_sum {S : List Sp} {B : Str → Option Sp} (hB : ∀ v s, B v = some s → s ∈ S ∧ s.2.1 = v) {p : Str → Int} (hp : ∀ s ∈ S, p s.1 + s.2.2.1 ≤ p s.2.1) : ∀ (m : Nat) (v : Str), AllB B v → p (itB B m v) + bySum (ringL B m v) ≤ p v
  | 0, v, _ => by simp [itB, ringL, bySum]
  | m + 1, v, ha => by
    obtain ⟨s, e⟩ := ha 0
    change B v = some s at e
    obtain ⟨h1, h2⟩ := hB v s e
    have i1 := pot_sum hB hp m s.1 (ha.next e)
    rw [itB_next e]
    have er := ringL_next e m
    have es : bySum (s :: ringL B m s.1) = s.2.2.1 + bySum (ringL B m s.1) := by simp [bySum]
    rw [er, es]
    have := hp s h1
    rw [h2] at this
    omega
theorem ring_of {S : List Sp} {C : List Str} {k : Nat} {done : List Sp} {st : BF} {T Lp : Str → Nat} {now : Nat} (h : BInv S k done st T Lp now) (hC : ∀ s ∈ S, s.1 ∈ C) {v : Str} (hv : v ∈ C) (hl : Lp v = C.length + 1) :
    (∀ i, i ≤ C.length → (∃ s, st.B (itB st.B i v) = some s) ∧ itB st.B i v ∈ C) ∧ AllB st.B (itB st.B C.length v) ∧
    ∃ d, 1 ≤ d ∧ d ≤ C.length ∧ itB st.B d (itB st.B C.length v) = itB st.B C.length v ∧ (∀ m, 1 ≤ m → m < d → itB st.B m (itB st.B C.length v) ≠ itB st.B C.length v) ∧ 0 < bySum (ringL st.B d (itB st.B C.length v)) := by
  have some_ : ∀ i, i ≤ C.length → ∃ s, st.B (itB st.B i v) = some s := fun i hi => by
    have := walkB h i v (by omega)
    cases e : st.B (itB st.B i v) with
    | none => have := h.no _ e; omega
    | some s => exact ⟨s, rfl⟩
  have mem : ∀ i, i ≤ C.length → itB st.B i v ∈ C := by
    intro i
    induction i with
    | zero => exact fun _ => hv
    | succ i ih =>
      intro hi
      obtain ⟨s, e⟩ := some_ i (by omega)
      rw [itB_succ]
      unfold bN'
      rw [e]
      exact hC s (h.bk _ s e).1
  obtain ⟨i, j, hij, hj, e⟩ := pigeon (C := C) C.length (fun i => itB st.B i v) (Nat.le_refl _) mem
  have back : ∀ m, ∃ i', i' ≤ C.length ∧ itB st.B m v = itB st.B i' v := by
    intro m
    induction m using Nat.strongRecOn with
    | ind m ih =>
      by_cases hm : m ≤ C.length
      · exact ⟨m, hm, rfl⟩
      · obtain ⟨i', h1, h2⟩ := ih (m - (j - i)) (by omega)
        refine ⟨i', h1, ?_⟩
        rw [← h2]
        have e1 : m = j + (m - j) := by omega
        have e2 : m - (j - i) = i + (m - j) := by omega
        rw [e2, itB_add, e, ← itB_add, ← e1]
  have all : AllB st.B (itB st.B C.length v) := fun m => by
    rw [← itB_add]
    obtain ⟨i', h1, h2⟩ := back (C.length + m)
    rw [h2]
    exact some_ i' h1
  have per : itB st.B (j - i) (itB st.B C.length v) = itB st.B C.length v := by
    have e1 : itB st.B C.length v = itB st.B (C.length - i) (itB st.B i v) := by
      rw [← itB_add]; congr 1; omega
    rw [e1, ← itB_add, show C.length - i + (j - i) = (j - i) + (C.length - i) from by omega, itB_add]
    congr 1
    rw [← itB_add, show i + (j - i) = j from by omega]
    exact e.symm
  obtain ⟨d, d1, d2, d3⟩ := least_of (P := fun d => 1 ≤ d ∧ itB st.B d (itB st.B C.length v) = itB st.B C.length v) ⟨by omega, per⟩
  refine ⟨fun i hi => ⟨some_ i hi, mem i hi⟩, all, d, d2.1, by omega, d2.2, fun m m1 m2 q => d3 m m2 ⟨m1, q⟩, ?_⟩
  obtain ⟨s1, s2⟩ := h.sum d _ all
  rw [d2.2] at s1 s2
  have := d2.1
  rcases Int.lt_or_eq_of_le (show 0 ≤ bySum (ringL st.B d (itB st.B C.length v)) by omega) with q | q
  · exact q
  · have := s2 (by omega); omega
theorem ringL_succ {B : Str → Option Sp} : ∀ (m : Nat) {v : Str} {s : Sp}, AllB B v → B (itB B m v) = some s → ringL B (m + 1) v = ringL B m v ++ [s]
  | 0, v, s, _, e => by
    change B v = some s at e
    rw [ringL_next e]; rfl
  | m + 1, v, s, ha, e => by
    obtain ⟨r, er⟩ := ha 0
    change B v = some r at er
    rw [itB_next er] at e
    rw [ringL_next er, ringL_succ m (ha.next er) e, ringL_next er]; rfl
theorem ringL_mem {B : Str → Option Sp} {P : Sp → Prop} (h : ∀ v s, B v = some s → P s) : ∀ (m : Nat) (v : Str), ∀ s ∈ ringL B m v, P s
  | 0, v, s, hs => by cases hs
  | m + 1, v, s, hs => by
    cases e : B v with
    | none =>
      have : ringL B (m + 1) v = [] := by unfold ringL; rw [e]
      rw [this] at hs; cases hs
    | some r =>
      rw [ringL_next e] at hs
      rcases List.mem_cons.mp hs with z | z
      · exact z ▸ h v r e
      · exact ringL_mem h m _ s z
theorem ringL_len {B : Str → Option Sp} : ∀ (m : Nat) {v : Str}, AllB B v → (ringL B m v).length = m
  | 0, v, _ => rfl
  | m + 1, v, ha => by
    obtain ⟨r, er⟩ := ha 0
    change B v = some r at er
    rw [ringL_next er, List.length_cons, ringL_len m (ha.next er)]
end Mi
/-! text S21 -/
set_option linter.all false
set_option maxRecDepth 100000
set_option maxHeartbeats 1000000
namespace Mi
open PySem L2 Dl TL
@[simp] theorem ev_eqP {neg : Bool} {π : Pth} {g : DE} {ρ : List W} : eqP neg π g ρ = (match pget π ρ with | some (.ol l) => (match g ρ with | some (y, _) => (eqD neg (.lst l) y).map fun d => (d, ρ) | none => none) | _ => none) := rfl
def UW (x : W) : Prop := nb [x] 0 = true
@[simp] theorem nb_uw {x : W} (h : UW x) (r : List W) : nb (x :: r) 0 = true := h
theorem uw_un : UW W.un := rfl
theorem uw_w (o : O) : UW (W.w false o) := rfl
theorem kget_kput {κ α : Type} [DecidableEq κ] {k k' : κ} {d : α} : ∀ {l : List (κ × α)}, kget k' (kput l k d) = if k = k' then some d else kget k' l := by
  intro l
  unfold kput
  by_cases h : k ∈ l.map (·.1)
  · rw [if_pos h]
    induction l with
    | nil => cases h
    | cons p r ih =>
      rw [List.map_cons]
      unfold kget
      by_cases e : p.1 = k
      · subst e
        by_cases e2 : p.1 = k'
        · simp [e2]
        · simp only [e2, if_false, if_true]
          clear ih h
          induction r with
          | nil => rfl
          | cons q r ih2 =>
            rw [List.map_cons]
            unfold kget
            by_cases e3 : q.1 = k'
            · have : q.1 ≠ p.1 := fun z => e2 (z ▸ e3)
              simp [e3, this]
              intro z; exact absurd z.symm e2
            · simp only [e3, if_false]; exact ih2
      · simp only [e, if_false]
        have h2 : k ∈ r.map (·.1) := by
          rcases List.mem_cons.mp h with z | z
          · exact absurd z.symm e
          · exact z
        rw [ih h2]
        by_cases e2 : p.1 = k'
        · have : k ≠ k' := fun z => e (z ▸ e2)
          simp [e2, this]
        · simp [e2]
  · rw [if_neg h]
    induction l with
    | nil => rfl
    | cons p r ih =>
      rw [List.cons_append]
      unfold kget
      simp only [List.map_cons, List.mem_cons, not_or] at h
      rw [ih h.2]
      by_cases e2 : p.1 = k'
      · have : k ≠ k' := fun z => h.1 (z ▸ e2.symm)
        simp [e2, this]
      · simp [e2]
theorem kput_len {κ α : Type} [DecidableEq κ] {k : κ} {d : α} {l : List (κ × α)} : (kput l k d).length ≤ l.length + 1 := by
  unfold kput
  split <;> simp
def aheadL (C : List Str) (a : Str → Int) : List (Key × D) := C.map fun c => (.inr c, .int (a c))
theorem ahead_get {C : List Str} {a : Str → Int} {v : Str} (h : v ∈ C) : kget (Sum.inr v : Key) (aheadL C a) = some (.int (a v)) := by
  unfold aheadL
  induction C with
  | nil => cases h
  | cons c C ih =>
    rw [List.map_cons]
    unfold kget
    by_cases e : c = v
    · subst e; simp
    · rw [if_neg (fun z => e (Sum.inr.inj z))]
      rcases List.mem_cons.mp h with z | z
      · exact absurd z.symm e
      · exact ih z
theorem ahead_put {C : List Str} {a : Str → Int} {v : Str} {x : Int} (h : v ∈ C) : kput (aheadL C a) (Sum.inr v : Key) (.int x) = aheadL C (updF a v x) := by
  have : (Sum.inr v : Key) ∈ (aheadL C a).map (·.1) := by
    unfold aheadL; rw [List.map_map]
    exact List.mem_map.mpr ⟨v, h, rfl⟩
  unfold kput
  rw [if_pos this]
  unfold aheadL
  rw [List.map_map]
  apply List.map_congr_left
  intro c _
  by_cases e : c = v
  · subst e; simp [updF]
  · simp [e, updF]
theorem ahead_len {C : List Str} {a : Str → Int} : (aheadL C a).length = C.length := List.length_map _
def lastD : Option Str → D
  | none => .non
  | some v => .str v
def BRep (st : BF) (bk : List (Key × D)) : Prop := ∀ v, kget (Sum.inr v : Key) bk = (st.B v).map spD
def rchO (S : List Sp) (C : List Str) : O := .ob "Reach" [("own_steps", .sh (.lst (S.map spD))), ("own_clocks", .sh (.lst (strsL C)))]
abbrev frS (S : List Sp) (C : List Str) (a : Str → Int) (bk : List (Key × D)) (l : D) (x5 x6 x7 x8 x9 x10 : W) : List W :=
  [W.w true (rchO S C), W.w false (.ok (aheadL C a)), W.w false (.ok bk), W.w false (.sh l), W.un, x5, x6, x7, x8, x9, x10, W.un, W.un]
abbrev frB : DS := (seqS (asG (vE 6) (bT 4 (bCons (nmB 7) (bCons (nmB 8) (bCons (nmB 9) (bCons (nmB 10) bNil))))))
  (ifS (bE (op2 gtI (op2 addD (subP (.sl 1) (vE 7)) (vE 9)) (subP (.sl 1) (vE 8))))
  (asG (tupE (consL (op2 addD (subP (.sl 1) (vE 7)) (vE 9)) (consL (vE 6) (consL (vE 8) nilL)))) (bT 3 (bCons (stB (.sl 1) (vE 8)) (bCons (stB (.sl 2) (vE 8)) (bCons (nmB 3) bNil)))))
  skipS))
theorem fr_step {S : List Sp} {C : List Str} (hc : C.length ≤ 1000) (st : BF) (bk : List (Key × D)) (hb : BRep st bk) (hl : bk.length ≤ 10000) (s : Sp) (h1 : s.1 ∈ C) (h2 : s.2.1 ∈ C) {x5 x7 x8 x9 x10 : W} (u7 : UW x7) (u8 : UW x8) (u9 : UW x9) (u10 : UW x10) :
    ∃ bk', frB (frS S C st.a bk (lastD st.last) x5 (W.w false (.sh (spD s))) x7 x8 x9 x10) = some (.nx (frS S C (bfStep st s).a bk' (lastD (bfStep st s).last) x5 (W.w false (.sh (spD s))) (W.w false (.sh (.str s.1))) (W.w false (.sh (.str s.2.1))) (W.w false (.sh (.int s.2.2.1))) (W.w false (.sh s.2.2.2)))) ∧ BRep (bfStep st s) bk' ∧ bk'.length ≤ bk.length + 1 := by
  have g1 := ahead_get (a := st.a) h1
  have g2 := ahead_get (a := st.a) h2
  have al := ahead_len (C := C) (a := st.a)
  have s1 : C.length ≤ 100000 := by omega
  have s2 : bk.length ≤ 100000 := by omega
  unfold bfStep
  by_cases hgt : st.a s.1 + s.2.2.1 > st.a s.2.1
  · rw [if_pos hgt]
    refine ⟨kput bk (Sum.inr s.2.1) (spD s), ?_, ?_, kput_len⟩
    · have p1 := ahead_put (a := st.a) (x := st.a s.1 + s.2.2.1) h2
      simp [spD, u7, u8, u9, u10, subO, keyD, g1, g2, hgt, putO, small, al, s1, s2, p1, lastD]
    · intro v
      dsimp only
      rw [kget_kput]
      by_cases e : s.2.1 = v
      · subst e; simp
      · have e' : ¬ (Sum.inr s.2.1 : Key) = Sum.inr v := fun z => e (Sum.inr.inj z)
        rw [if_neg e', updF_ne (fun z => e z.symm)]
        exact hb v
  · rw [if_neg hgt]
    refine ⟨bk, ?_, hb, Nat.le_succ _⟩
    have hle : st.a s.1 + s.2.2.1 ≤ st.a s.2.1 := by omega
    simp [spD, u7, u8, u9, u10, subO, keyD, g1, g2, hgt]
theorem fr_lap {S : List Sp} {C : List Str} (hc : C.length ≤ 1000) (hS : S.length ≤ 100) (hm : ∀ s ∈ S, s.1 ∈ C ∧ s.2.1 ∈ C) {k : Nat} (k1 : 1 ≤ k) {st : BF} {T Lp : Str → Nat} {now : Nat} (h : BInv S k [] st T Lp now) (bk : List (Key × D)) (hb : BRep st bk) (hl : bk.length ≤ 5000)
    {x5 x6 x7 x8 x9 x10 : W} (u6 : UW x6) (u7 : UW x7) (u8 : UW x8) (u9 : UW x9) (u10 : UW x10) :
    ∃ st' T' Lp' now' bk' y6 y7 y8 y9 y10, BInv S k S st' T' Lp' now' ∧ BRep st' bk' ∧ bk'.length ≤ bk.length + S.length ∧ UW y6 ∧ UW y7 ∧ UW y8 ∧ UW y9 ∧ UW y10 ∧ (∀ v, st'.last = some v → st.last = some v ∨ v ∈ C) ∧
      forS (itE seqS' (pE (.fd 0 "Reach" "own_steps"))) (bN 6) frB (frS S C st.a bk (lastD st.last) x5 x6 x7 x8 x9 x10) = some (.nx (frS S C st'.a bk' (lastD st'.last) x5 y6 y7 y8 y9 y10)) := by
  obtain ⟨ρ, e, st', T', Lp', now', bk', y6, y7, y8, y9, y10, i1, i2, i3, v6, v7, v8, v9, v10, i4, rfl⟩ := forR_rel0 (l := S) (enc := spD) (b := bN 6) (body := frB) (ρ := frS S C st.a bk (lastD st.last) x5 x6 x7 x8 x9 x10)
    (fun a ρ => ∃ st' T' Lp' now' bk' y6 y7 y8 y9 y10, BInv S k a st' T' Lp' now' ∧ BRep st' bk' ∧ bk'.length ≤ bk.length + a.length ∧ UW y6 ∧ UW y7 ∧ UW y8 ∧ UW y9 ∧ UW y10 ∧ (∀ v, st'.last = some v → st.last = some v ∨ v ∈ C) ∧ ρ = frS S C st'.a bk' (lastD st'.last) x5 y6 y7 y8 y9 y10)
    (fun a s c ρ e ⟨st', T', Lp', now', bk', y6, y7, y8, y9, y10, i1, i2, i3, v6, v7, v8, v9, v10, i4, er⟩ => by
      subst er
      have hs : s ∈ S := by rw [e]; simp
      have hlen : a.length + 1 ≤ S.length := by rw [e]; simp
      obtain ⟨m1, m2⟩ := hm s hs
      obtain ⟨bk2, q1, q2, q3⟩ := fr_step (S := S) hc st' bk' i2 (by omega) s m1 m2 (x5 := x5) v7 v8 v9 v10
      obtain ⟨T2, Lp2, now2, j1⟩ := i1.step hs k1
      refine ⟨_, _, rfl, q1, bfStep st' s, T2, Lp2, now2, bk2, _, _, _, _, _, j1, q2, by rw [List.length_append, List.length_singleton]; omega, uw_w _, uw_w _, uw_w _, uw_w _, uw_w _, fun v hv => ?_, rfl⟩
      unfold bfStep at hv
      split at hv
      · cases hv; exact .inr m2
      · exact i4 v hv)
    ⟨st, T, Lp, now, bk, x6, x7, x8, x9, x10, h, hb, by simp, u6, u7, u8, u9, u10, fun v hv => .inl hv, rfl⟩
  refine ⟨st', T', Lp', now', bk', y6, y7, y8, y9, y10, i1, i2, i3, v6, v7, v8, v9, v10, i4, ?_⟩
  have n1 : fget "own_steps" [(("own_steps" : Str), O.sh (.lst (S.map spD))), ("own_clocks", .sh (.lst (strsL C)))] = some (.sh (.lst (S.map spD))) := by simp [fget]
  have e0 : itE seqS' (pE (.fd 0 "Reach" "own_steps")) (frS S C st.a bk (lastD st.last) x5 x6 x7 x8 x9 x10) = some (S.map spD, frS S C st.a bk (lastD st.last) x5 x6 x7 x8 x9 x10) := by
    simp [frS, rchO, n1, seqS', seqD]
  rw [ev_for, e0]
  exact e
end Mi
/-! text S22 -/
set_option linter.all false
set_option maxRecDepth 100000
set_option maxHeartbeats 1000000
namespace Mi
open PySem L2 Dl TL
/-- a loop that may return -/
theorem forR_ret {X : Type} {b : D → List W → Option (List W)} {body : DS} {enc : X → D} (I : List X → List W → Prop) (R : O → List W → Prop) : ∀ (post pre : List X) (ρ : List W),
    (∀ a x c ρ, post = a ++ x :: c → I (pre ++ a) ρ → ∃ ρ1, b (enc x) ρ = some ρ1 ∧ ((∃ ρ2, body ρ1 = some (.nx ρ2) ∧ I (pre ++ a ++ [x]) ρ2) ∨ ∃ o ρ2, body ρ1 = some (.rt o ρ2) ∧ R o ρ2)) →
    I pre ρ → (∃ ρ2, forR b body (post.map enc) ρ = some (.nx ρ2) ∧ I (pre ++ post) ρ2) ∨ ∃ o ρ2, forR b body (post.map enc) ρ = some (.rt o ρ2) ∧ R o ρ2
  | [], pre, ρ, _, h => .inl ⟨ρ, rfl, by simpa using h⟩
  | x :: post, pre, ρ, hs, h => by
    obtain ⟨ρ1, e1, ⟨ρ2, e2, i2⟩ | ⟨o, ρ2, e2, r2⟩⟩ := hs [] x post ρ rfl (by simpa using h)
    · have ih := forR_ret I R post (pre ++ [x]) ρ2 (fun a y c ρ e i => by
        have := hs (x :: a) y c ρ (by rw [e]; rfl) (by simpa using i)
        simpa using this) (by simpa using i2)
      have e3 : forR b body ((x :: post).map enc) ρ = forR b body (post.map enc) ρ2 := by
        rw [List.map_cons]
        conv => lhs; unfold forR
        rw [e1]
        dsimp only
        rw [e2]
      rw [e3]
      rcases ih with ⟨ρ3, q1, q2⟩ | q
      · exact .inl ⟨ρ3, q1, by simpa using q2⟩
      · exact .inr q
    · refine .inr ⟨o, ρ2, ?_, r2⟩
      rw [List.map_cons]
      unfold forR
      rw [e1]
      dsimp only
      rw [e2]
theorem isD_last (l : Option Str) : isD false (lastD l) .non = some (.bl l.isNone) := by cases l <;> rfl
structure GOk (S : List Sp) (C : List Str) : Prop where
  c1 : C ≠ []
  cl : C.length ≤ 9
  sl : S.length ≤ 96
  cu : C.Nodup
  mem : ∀ s ∈ S, s.1 ∈ C ∧ s.2.1 ∈ C
  lay : ∀ c ∈ C, PyData.canLay0 (.str c) = true
  nam : ∀ s ∈ S, okD 50 s.2.2.2 = true
def Pot' (S : List Sp) (p : Str → Int) : Prop := ∀ s ∈ S, p s.1 + s.2.2.1 ≤ p s.2.1
/-- a closed row of steps, told backwards -/
structure Ring (S : List Sp) (r : List Sp) : Prop where
  ne : r ≠ []
  le : r.length ≤ 9
  mem : ∀ s ∈ r, s ∈ S
  sum : 0 < bySum r
  link : ∀ i s t, r[i]? = some s → r[i + 1]? = some t → s.1 = t.2.1
  close : ∀ s t, r.head? = some s → r.getLast? = some t → t.1 = s.2.1
abbrev frO : DS := (seqS (asgS 3 (shE (cE .non)))
  (seqS (forS (itE seqS' (pE (.fd 0 "Reach" "own_steps"))) (bN 6)
  (seqS (asG (vE 6) (bT 4 (bCons (nmB 7) (bCons (nmB 8) (bCons (nmB 9) (bCons (nmB 10) bNil))))))
  (ifS (bE (op2 gtI (op2 addD (subP (.sl 1) (vE 7)) (vE 9)) (subP (.sl 1) (vE 8))))
  (asG (tupE (consL (op2 addD (subP (.sl 1) (vE 7)) (vE 9)) (consL (vE 6) (consL (vE 8) nilL)))) (bT 3 (bCons (stB (.sl 1) (vE 8)) (bCons (stB (.sl 2) (vE 8)) (bCons (nmB 3) bNil)))))
  skipS)))
  (ifS (bE (op2 (isD false) (vE 3) (cE .non)))
  (retS (shE (cE .non)))
  skipS)))
theorem fr_laps {S : List Sp} {C : List Str} (g : GOk S C) (l : List D) (hl : l.length ≤ 10) :
    (∃ st T Lp now bk x5 x6 x7 x8 x9 x10, UW x5 ∧ BInv S (l.length + 1) [] { st with last := none } T Lp now ∧ BRep st bk ∧ (l ≠ [] → ∃ v, v ∈ C ∧ st.last = some v ∧ Lp v = l.length) ∧
      forR (bN 5) frO l (frS S C (fun _ => 0) [] .non W.un W.un W.un W.un W.un W.un) = some (.nx (frS S C st.a bk (lastD st.last) x5 x6 x7 x8 x9 x10))) ∨
    ∃ ρ2, forR (bN 5) frO l (frS S C (fun _ => 0) [] .non W.un W.un W.un W.un W.un W.un) = some (.rt (.sh .non) ρ2) ∧ ρ2[0]? = some (W.w true (rchO S C)) ∧ ∃ p, Pot' S p := by
  have key := forR_ret (enc := id) (b := bN 5) (body := frO)
    (fun (a : List D) ρ => ∃ st T Lp now bk x5 x6 x7 x8 x9 x10, BInv S (a.length + 1) [] { st with last := none } T Lp now ∧ BRep st bk ∧ bk.length ≤ 96 * a.length ∧ (a ≠ [] → ∃ v, v ∈ C ∧ st.last = some v ∧ Lp v = a.length) ∧ UW x5 ∧ UW x6 ∧ UW x7 ∧ UW x8 ∧ UW x9 ∧ UW x10 ∧ ρ = frS S C st.a bk (lastD st.last) x5 x6 x7 x8 x9 x10)
    (fun o ρ2 => o = .sh .non ∧ ρ2[0]? = some (W.w true (rchO S C)) ∧ ∃ p, Pot' S p) l [] (frS S C (fun _ => 0) [] .non W.un W.un W.un W.un W.un W.un)
    (fun a x c ρ e ⟨st, T, Lp, now, bk, x5, x6, x7, x8, x9, x10, i1, i2, i3, i4, u5, u6, u7, u8, u9, u10, er⟩ => by
      subst er
      simp only [List.nil_append] at i1 i3 i4 ⊢
      have hal : a.length + 1 ≤ 10 := by rw [e] at hl; simp only [List.length_append, List.length_cons] at hl; omega
      refine ⟨frS S C st.a bk (lastD st.last) (W.w false (.sh x)) x6 x7 x8 x9 x10, rfl, ?_⟩
      have e0 : asgS 3 (shE (cE .non)) (frS S C st.a bk (lastD st.last) (W.w false (.sh x)) x6 x7 x8 x9 x10) = some (.nx (frS S C st.a bk .non (W.w false (.sh x)) x6 x7 x8 x9 x10)) := by simp [frS]
      obtain ⟨st', T', Lp', now', bk', y6, y7, y8, y9, y10, j1, j2, j3, v6, v7, v8, v9, v10, j4, j5⟩ := fr_lap (S := S) (C := C) (by have := g.cl; omega) (by have := g.sl; omega) g.mem (k := a.length + 1) (by omega) i1 bk i2 (by omega) (x5 := W.w false (.sh x)) u6 u7 u8 u9 u10
      dsimp only at j4 j5
      have j5' : forS (itE seqS' (pE (.fd 0 "Reach" "own_steps"))) (bN 6) frB (frS S C st.a bk .non (W.w false (.sh x)) x6 x7 x8 x9 x10) = some (.nx (frS S C st'.a bk' (lastD st'.last) (W.w false (.sh x)) y6 y7 y8 y9 y10)) := j5
      have e6 : frO (frS S C st.a bk (lastD st.last) (W.w false (.sh x)) x6 x7 x8 x9 x10) = ifS (bE (op2 (isD false) (vE 3) (cE .non))) (retS (shE (cE .non))) skipS (frS S C st'.a bk' (lastD st'.last) (W.w false (.sh x)) y6 y7 y8 y9 y10) := by
        unfold frO
        rw [ev_seq, e0]
        dsimp only
        rw [ev_seq]
        show (match forS (itE seqS' (pE (.fd 0 "Reach" "own_steps"))) (bN 6) frB (frS S C st.a bk .non (W.w false (.sh x)) x6 x7 x8 x9 x10) with | some (.nx ρ1) => _ | r => r) = _
        rw [j5']
      rw [e6]
      cases hlast : st'.last with
      | none =>
        refine .inr ⟨.sh .non, frS S C st'.a bk' .non (W.w false (.sh x)) y6 y7 y8 y9 y10, by simp [frS, lastD, isD, Dl.isNon], rfl, rfl, st'.a, fun s hs => j1.lno hlast s hs⟩
      | some v =>
        refine .inl ⟨frS S C st'.a bk' (.str v) (W.w false (.sh x)) y6 y7 y8 y9 y10, by simp [frS, lastD, isD, Dl.isNon], st', T', Lp', now', bk', _, _, _, _, _, _, ?_, j2, ?_, ?_, uw_w _, v6, v7, v8, v9, v10, by rw [hlast]; rfl⟩
        · rw [List.length_append, List.length_singleton]; exact j1.next
        · rw [List.length_append, List.length_singleton]; have := g.sl; omega
        · intro _
          refine ⟨v, ?_, hlast, by rw [List.length_append, List.length_singleton]; exact j1.lso v hlast⟩
          rcases j4 v hlast with z | z
          · cases z
          · exact z)
    ⟨⟨fun _ => 0, fun _ => none, none⟩, fun _ => 0, fun _ => 0, 0, [], W.un, W.un, W.un, W.un, W.un, W.un, BInv.zero S, fun v => rfl, by simp, fun z => absurd rfl z, uw_un, uw_un, uw_un, uw_un, uw_un, uw_un, rfl⟩
  rw [List.map_id, List.nil_append] at key
  rcases key with ⟨ρ2, e, st, T, Lp, now, bk, x5, x6, x7, x8, x9, x10, i1, i2, i3, i4, u5, u6, u7, u8, u9, u10, rfl⟩ | ⟨o, ρ2, e, rfl, q1, q2⟩
  · exact .inl ⟨st, T, Lp, now, bk, x5, x6, x7, x8, x9, x10, u5, i1, i2, i4, e⟩
  · exact .inr ⟨ρ2, e, q1, q2⟩
end Mi
/-! text S23 -/
set_option linter.all false
set_option maxRecDepth 100000
set_option maxHeartbeats 1000000
namespace Mi
open PySem L2 Dl TL
abbrev frF (S : List Sp) (C : List Str) (a : Str → Int) (bk : List (Key × D)) (l : D) (x5 x6 x7 x8 x9 x10 x11 x12 : W) : List W :=
  [W.w true (rchO S C), W.w false (.ok (aheadL C a)), W.w false (.ok bk), W.w false (.sh l), W.un, x5, x6, x7, x8, x9, x10, x11, x12]
theorem fr_back {S : List Sp} {C : List Str} {st : BF} {bk : List (Key × D)} (hb : BRep st bk) {v : Str} (hs : ∀ i, i ≤ C.length → ∃ s, st.B (itB st.B i v) = some s) (a : Str → Int) (x5 x6 x7 x8 x9 x10 : W) :
    ∃ y5, forS (itE seqS' (pE (.fd 0 "Reach" "own_clocks"))) (bN 5) (asgS 3 (shE (op2 subD (subP (.sl 2) (vE 3)) (cE (.int 0))))) (frS S C a bk (.str v) x5 x6 x7 x8 x9 x10) = some (.nx (frS S C a bk (.str (itB st.B C.length v)) y5 x6 x7 x8 x9 x10)) := by
  have n1 : fget "own_clocks" [(("own_steps" : Str), O.sh (.lst (S.map spD))), ("own_clocks", .sh (.lst (strsL C)))] = some (.sh (.lst (strsL C))) := by
    have : ("own_steps" : Str) ≠ "own_clocks" := by decide +kernel
    simp [fget, this]
  obtain ⟨ρ, e, y5, rfl⟩ := forR_rel0 (l := C) (enc := D.str) (b := bN 5) (body := asgS 3 (shE (op2 subD (subP (.sl 2) (vE 3)) (cE (.int 0))))) (ρ := frS S C a bk (.str v) x5 x6 x7 x8 x9 x10)
    (fun c ρ => ∃ y5, ρ = frS S C a bk (.str (itB st.B c.length v)) y5 x6 x7 x8 x9 x10)
    (fun c x d ρ e ⟨y5, er⟩ => by
      subst er
      have hlen : c.length ≤ C.length := by rw [e]; simp
      obtain ⟨s, es⟩ := hs c.length hlen
      have k := hb (itB st.B c.length v)
      rw [es] at k
      refine ⟨frS S C a bk (.str (itB st.B c.length v)) (W.w false (.sh (.str x))) x6 x7 x8 x9 x10, _, rfl, ?_, W.w false (.sh (.str x)), rfl⟩
      have e2 : itB st.B (c ++ [x]).length v = s.1 := by
        rw [List.length_append, List.length_singleton, itB_succ]
        unfold bN'
        rw [es]; rfl
      rw [e2]
      simp [frS, subO, keyD, k, spD])
    ⟨x5, rfl⟩
  refine ⟨y5, ?_⟩
  have e0 : itE seqS' (pE (.fd 0 "Reach" "own_clocks")) (frS S C a bk (.str v) x5 x6 x7 x8 x9 x10) = some (strsL C, frS S C a bk (.str v) x5 x6 x7 x8 x9 x10) := by
    simp [frS, rchO, n1, seqS', seqD]
  rw [ev_for, e0]
  exact e
theorem okDs_names (n : Nat) : ∀ {l : List D}, (∀ d ∈ l, okD n d = true) → okDs n l = true
  | [], _ => rfl
  | x :: r, h => by
    show (okD n x && okDs n r) = true
    rw [h x List.mem_cons_self, okDs_names n fun d hd => h d (List.mem_cons_of_mem _ hd)]; rfl
mutual
theorem okD_mono : ∀ {d : D} {n m : Nat}, n ≤ m → okD n d = true → okD m d = true
  | .non, _, _, _, h => rfl
  | .bl _, _, _, _, h => rfl
  | .int _, _, _, _, h => rfl
  | .str _, _, _, _, h => h
  | .tup l, n, m, hn, h => by
    obtain ⟨h1, h2⟩ := Bool.and_eq_true_iff.mp (show (decide (0 < n) && okDs (n - 1) l) = true from h)
    show (decide (0 < m) && okDs (m - 1) l) = true
    have := of_decide_eq_true h1
    rw [decide_eq_true (by omega), okDs_mono (by omega) h2]; rfl
  | .lst l, n, m, hn, h => by
    obtain ⟨h1, h2⟩ := Bool.and_eq_true_iff.mp (show (decide (0 < n) && okDs (n - 1) l) = true from h)
    show (decide (0 < m) && okDs (m - 1) l) = true
    have := of_decide_eq_true h1
    rw [decide_eq_true (by omega), okDs_mono (by omega) h2]; rfl
  | .ty _, _, _, _, h => nomatch h
  | .fl _, _, _, _, h => nomatch h
  | .dk _, _, _, _, h => nomatch h
  | .dt _, _, _, _, h => nomatch h
  | .obj _ _, _, _, _, h => nomatch h
theorem okDs_mono : ∀ {l : List D} {n m : Nat}, n ≤ m → okDs n l = true → okDs m l = true
  | [], _, _, _, _ => rfl
  | d :: r, n, m, hn, h => by
    obtain ⟨h1, h2⟩ := Bool.and_eq_true_iff.mp (show (okD n d && okDs n r) = true from h)
    show (okD m d && okDs m r) = true
    rw [okD_mono hn h1, okDs_mono hn h2]; rfl
end
theorem eq_nil {l : List D} (h : ∀ d ∈ l, okD 50 d = true) (neg : Bool) : eqD neg (.lst l) (.lst []) = some (.bl (if neg then !l.isEmpty else l.isEmpty)) := by
  rw [eqD_ok (by show (decide (0 < 60) && okDs 59 l) = true; rw [okDs_names 59 fun d hd => okD_mono (by decide) (h d hd)]; rfl) rfl]
  cases l <;> rfl
abbrev frT : BE := (orB (bE (eqP false (.sl 12) (frE (lstE nilL)))) (bE (op2 (eqD true) (vE 3) (vE 11))))
abbrev frW : DS := (seqS (appS (.sl 12) (op2 subD (subP (.sl 2) (vE 3)) (cE (.int 3))))
  (asgS 3 (shE (op2 subD (subP (.sl 2) (vE 3)) (cE (.int 0))))))
theorem fr_while {S : List Sp} {C : List Str} {st : BF} {bk : List (Key × D)} (hb : BRep st bk) {w : Str} {d : Nat} (hB : ∀ v s, st.B v = some s → okD 50 s.2.2.2 = true) (hlay : ∀ m, PyData.canLay0 (.str (itB st.B m w)) = true) (hd : 1 ≤ d) (hd9 : d ≤ 100) (all : AllB st.B w) (per : itB st.B d w = w) (nper : ∀ m, 1 ≤ m → m < d → itB st.B m w ≠ w) (a : Str → Int) (x5 x6 x7 x8 x9 x10 : W) :
    ∀ (j m : Nat), m + j = d → ∀ fuel, j < fuel → whileR frT frW fuel (frF S C a bk (.str (itB st.B m w)) x5 x6 x7 x8 x9 x10 (W.w false (.sh (.str w))) (W.w false (.ol ((ringL st.B m w).map (·.2.2.2))))) =
      some (.nx (frF S C a bk (.str w) x5 x6 x7 x8 x9 x10 (W.w false (.sh (.str w))) (W.w false (.ol ((ringL st.B d w).map (·.2.2.2)))))) := by
  have nm : ∀ m, ∀ x ∈ (ringL st.B m w).map (·.2.2.2), okD 50 x = true := fun m x hx => by
    obtain ⟨s, h1, rfl⟩ := List.mem_map.mp hx
    exact ringL_mem (P := fun s => okD 50 s.2.2.2 = true) (fun v s => hB v s) m w s h1
  intro j
  induction j with
  | zero =>
    intro m hm fuel hf
    obtain ⟨f, rfl⟩ : ∃ f, fuel = f + 1 := ⟨fuel - 1, by omega⟩
    have : m = d := by omega
    subst this
    have e1 := eq_nil (nm m) false
    have ne : ((ringL st.B m w).map (·.2.2.2)).isEmpty = false := by
      have := ringL_len m all
      cases h : ringL st.B m w with
      | nil => rw [h] at this; simp at this; omega
      | cons => rfl
    rw [ne] at e1
    have e2 : eqD true (.str (itB st.B m w)) (.str w) = some (.bl false) := by rw [per]; exact neS_self (hlay 0)
    unfold whileR
    have et : frT (frF S C a bk (.str (itB st.B m w)) x5 x6 x7 x8 x9 x10 (W.w false (.sh (.str w))) (W.w false (.ol ((ringL st.B m w).map (·.2.2.2))))) = some (false, frF S C a bk (.str (itB st.B m w)) x5 x6 x7 x8 x9 x10 (W.w false (.sh (.str w))) (W.w false (.ol ((ringL st.B m w).map (·.2.2.2))))) := by
      generalize (ringL st.B m w).map (·.2.2.2) = fo at e1
      simp [frT, frF, e1, e2, small]
    rw [et]
    dsimp only
    rw [per]
  | succ j ih =>
    intro m hm fuel hf
    obtain ⟨f, rfl⟩ : ∃ f, fuel = f + 1 := ⟨fuel - 1, by omega⟩
    obtain ⟨s, es⟩ := all m
    have k := hb (itB st.B m w)
    rw [es] at k
    have ih' := ih (m + 1) (by omega) f (by omega)
    have e2 : itB st.B (m + 1) w = s.1 := by rw [itB_succ]; unfold bN'; rw [es]; rfl
    have e3 : (ringL st.B (m + 1) w).map (·.2.2.2) = (ringL st.B m w).map (·.2.2.2) ++ [s.2.2.2] := by rw [ringL_succ m all es, List.map_append]; rfl
    rw [e2, e3] at ih'
    have rl := ringL_len m all
    have e1 := eq_nil (nm m) false
    have sz : ((ringL st.B m w).map (·.2.2.2)).length ≤ 100000 := by rw [List.length_map, rl]; omega
    have et : frT (frF S C a bk (.str (itB st.B m w)) x5 x6 x7 x8 x9 x10 (W.w false (.sh (.str w))) (W.w false (.ol ((ringL st.B m w).map (·.2.2.2))))) = some (true, frF S C a bk (.str (itB st.B m w)) x5 x6 x7 x8 x9 x10 (W.w false (.sh (.str w))) (W.w false (.ol ((ringL st.B m w).map (·.2.2.2))))) := by
      by_cases hm0 : m = 0
      · subst hm0
        have e1' : eqD false (.lst []) (.lst []) = some (.bl true) := rfl
        simp [frT, frF, ringL, small, e1']
      · have q : eqD true (.str (itB st.B m w)) (.str w) = some (.bl true) := neS_ne (hlay m) (hlay 0) (nper m (by omega) (by omega))
        generalize (ringL st.B m w).map (·.2.2.2) = fo at e1
        cases hfo : fo.isEmpty <;> simp [frT, frF, e1, q, small, hfo]
    unfold whileR
    rw [et]
    dsimp only
    have eb : frW (frF S C a bk (.str (itB st.B m w)) x5 x6 x7 x8 x9 x10 (W.w false (.sh (.str w))) (W.w false (.ol ((ringL st.B m w).map (·.2.2.2))))) = some (.nx (frF S C a bk (.str s.1) x5 x6 x7 x8 x9 x10 (W.w false (.sh (.str w))) (W.w false (.ol ((ringL st.B m w).map (·.2.2.2) ++ [s.2.2.2]))))) := by
      generalize (ringL st.B m w).map (·.2.2.2) = fo at sz
      simp [frW, frF, subO, keyD, k, spD, small, sz]
    rw [eb]
    exact ih'
end Mi
/-! text S24 -/
set_option linter.all false
set_option maxRecDepth 100000
set_option maxHeartbeats 1000000
namespace Mi
open PySem L2 Dl TL
theorem seq_of {s s' : DS} {ρ ρ1 : List W} (h : s ρ = some (.nx ρ1)) : seqS s s' ρ = s' ρ1 := by rw [ev_seq, h]
theorem kputs_new {α : Type} {f : Str → α} : ∀ (C : List Str) (acc : List (Key × α)), C.Nodup → (∀ c ∈ C, (Sum.inr c : Key) ∉ acc.map (·.1)) → kputs acc (C.map fun c => ((Sum.inr c : Key), f c)) = acc ++ C.map fun c => ((Sum.inr c : Key), f c)
  | [], acc, _, _ => by simp [kputs]
  | c :: C, acc, nd, h => by
    have h1 := kput_new (d := f c) (h c List.mem_cons_self)
    obtain ⟨n1, n2⟩ := List.nodup_cons.mp nd
    show kputs (kput acc (Sum.inr c) (f c)) (C.map fun c => ((Sum.inr c : Key), f c)) = _
    rw [h1, kputs_new C _ n2 fun x hx => by
      rw [List.map_append, List.mem_append]
      rintro (z | z)
      · exact h x (List.mem_cons_of_mem _ hx) z
      · have : (Sum.inr x : Key) = Sum.inr c := by simpa using z
        exact n1 (Sum.inr.inj this ▸ hx)]
    simp
theorem pairK_of {f : Str → D} (C : List Str) : pairK (C.map fun c => D.tup [.str c, f c]) = some (C.map fun c => ((Sum.inr c : Key), f c)) := by
  induction C with
  | nil => rfl
  | cons c C ih =>
    show (pairK (C.map fun c => D.tup [.str c, f c])).map (fun r => ((Sum.inr c : Key), f c) :: r) = _
    rw [ih]; rfl
theorem p_found_ring {S : List Sp} {C : List Str} (g : GOk S C) : (m_Reach_found_ring (rchO S C) [] = some (.sh .non, rchO S C) ∧ ∃ p, Pot' S p) ∨
    ∃ r, Ring S r ∧ m_Reach_found_ring (rchO S C) [] = some (.sh (.tup (r.reverse.map (·.2.2.2))), rchO S C) := by
  have n1 : fget "own_clocks" [(("own_steps" : Str), O.sh (.lst (S.map spD))), ("own_clocks", .sh (.lst (strsL C)))] = some (.sh (.lst (strsL C))) := by
    have : ("own_steps" : Str) ≠ "own_clocks" := by decide +kernel
    simp [fget, this]
  have cl := g.cl
  -- the first assignment
  have s1 : parO3 1 2 3 (consO (callB dictKO (consL (frE (lcE [4] (itE seqS' (pE (.fd 0 "Reach" "own_clocks"))) (bN 4) yesB (tupE (consL (vE 4) (consL (cE (.int 0)) nilL))))) nilL)) (consO (fun ρ => some (.ok [], ρ)) (consO (shE (cE .non)) nilO)))
      [W.w true (rchO S C), W.un, W.un, W.un, W.un, W.un, W.un, W.un, W.un, W.un, W.un, W.un, W.un] = some (.nx (frS S C (fun _ => 0) [] .non W.un W.un W.un W.un W.un W.un)) := by
    have e : lcE [4] (itE seqS' (pE (.fd 0 "Reach" "own_clocks"))) (bN 4) yesB (tupE (consL (vE 4) (consL (cE (.int 0)) nilL))) [W.w true (rchO S C), W.un, W.un, W.un, W.un, W.un, W.un, W.un, W.un, W.un, W.un, W.un, W.un] =
        some (.ol (C.map fun c => .tup [.str c, .int 0]), [W.w true (rchO S C), W.un, W.un, W.un, W.un, W.un, W.un, W.un, W.un, W.un, W.un, W.un, W.un]) := by
      refine lcE_map (xs := C) (enc := D.str) (F := fun c => .tup [.str c, .int 0]) (ρ1 := [W.w true (rchO S C), W.un, W.un, W.un, W.un, W.un, W.un, W.un, W.un, W.un, W.un, W.un, W.un]) ?_ (decide_eq_true (by omega)) fun c hc => ?_
      · have : itE seqS' (pE (.fd 0 "Reach" "own_clocks")) [W.w true (rchO S C), W.un, W.un, W.un, W.un, W.un, W.un, W.un, W.un, W.un, W.un, W.un, W.un] = some (strsL C, [W.w true (rchO S C), W.un, W.un, W.un, W.un, W.un, W.un, W.un, W.un, W.un, W.un, W.un, W.un]) := by simp [rchO, n1, seqS', seqD]
        exact this
      · exact ⟨[W.w true (rchO S C), W.un, W.un, W.un, W.w false (.sh (.str c)), W.un, W.un, W.un, W.un, W.un, W.un, W.un, W.un], [W.w true (rchO S C), W.un, W.un, W.un, W.w false (.sh (.str c)), W.un, W.un, W.un, W.un, W.un, W.un, W.un, W.un], rfl, by simp [small], rfl⟩
    have e2 : dictKO [.lst (C.map fun c => .tup [.str c, .int 0])] = some (.ok (aheadL C fun _ => 0)) := by
      show (pairK (C.map fun c => .tup [.str c, .int 0])).map (fun m => O.ok (kputs [] m)) = _
      rw [pairK_of (f := fun _ => .int 0)]
      show some (O.ok (kputs [] (C.map fun c => ((Sum.inr c : Key), D.int 0)))) = _
      rw [kputs_new (f := fun _ => D.int 0) C [] g.cu (by simp)]
      rfl
    simp [e, e2]
  have s2 : itL rng1D (consL (op2 addD (frE (callB (sh1 lenD) (consL (pE (.fd 0 "Reach" "own_clocks")) nilL))) (cE (.int 1))) nilL) (frS S C (fun _ => 0) [] .non W.un W.un W.un W.un W.un W.un) = some (rangeD 0 (C.length + 1), frS S C (fun _ => 0) [] .non W.un W.un W.un W.un W.un W.un) := by
    have h1 : (strsL C).length = C.length := List.length_map _
    have e7 : rng1D [.int ((C.length : Int) + 1)] = some (rangeD 0 (C.length + 1)) := by
      show (if -1000000 ≤ ((C.length : Int) + 1) ∧ ((C.length : Int) + 1) ≤ 1000000 then some (rangeD 0 ((C.length : Int) + 1).toNat) else none) = _
      rw [if_pos (by omega), show ((C.length : Int) + 1).toNat = C.length + 1 from by omega]
    simp [frS, rchO, n1, h1, e7]
  have rl : (rangeD 0 (C.length + 1)).length = C.length + 1 := by simp [rangeD]
  unfold m_Reach_found_ring fnR g_Reach_found_ring
  simp only [List.map_cons, List.map_nil, List.cons_append, List.nil_append, show (13 - 1 : Nat) = 12 from rfl, show List.replicate 12 W.un = [W.un, W.un, W.un, W.un, W.un, W.un, W.un, W.un, W.un, W.un, W.un, W.un] from rfl]
  have step1 : ∀ (rest : DS), seqS (parO3 1 2 3 (consO (callB dictKO (consL (frE (lcE [4] (itE seqS' (pE (.fd 0 "Reach" "own_clocks"))) (bN 4) yesB (tupE (consL (vE 4) (consL (cE (.int 0)) nilL))))) nilL)) (consO (fun ρ => some (.ok [], ρ)) (consO (shE (cE .non)) nilO)))) rest
      [W.w true (rchO S C), W.un, W.un, W.un, W.un, W.un, W.un, W.un, W.un, W.un, W.un, W.un, W.un] = rest (frS S C (fun _ => 0) [] .non W.un W.un W.un W.un W.un W.un) := fun rest => by rw [ev_seq, s1]
  rw [step1]
  have laps := fr_laps g (rangeD 0 (C.length + 1)) (by omega)
  rw [ev_seq, ev_for, s2]
  dsimp only
  rcases laps with ⟨st, T, Lp, now, bk, x5, x6, x7, x8, x9, x10, u5, i1, i2, i3, e⟩ | ⟨ρ2, e, q1, q2⟩
  · right
    obtain ⟨v, hv, hl, hLp⟩ := i3 (by intro z; rw [z] at rl; simp at rl)
    rw [rl] at hLp
    obtain ⟨r1, r2, d, d1, d2, d3, d4, d5⟩ := ring_of (C := C) i1 (fun s hs => (g.mem s hs).1) hv hLp
    dsimp only at r1 r2 d3 d4 d5
    have hB : ∀ v s, st.B v = some s → s ∈ S ∧ s.2.1 = v := fun v s e => ⟨(i1.bk v s e).1, (i1.bk v s e).2.1⟩
    obtain ⟨y5, f1⟩ := fr_back (S := S) (C := C) (bk := bk) i2 (v := v) (fun i hi => (r1 i hi).1) st.a x5 x6 x7 x8 x9 x10
    have hmem : ∀ m, itB st.B m (itB st.B C.length v) ∈ C := by
      intro m
      induction m with
      | zero => exact (r1 C.length (Nat.le_refl _)).2
      | succ m _ =>
        obtain ⟨s, es⟩ := r2 m
        rw [itB_succ]
        unfold bN'
        rw [es]
        exact (g.mem s (hB _ s es).1).1
    have f2 := fr_while (S := S) (C := C) (bk := bk) i2 (w := itB st.B C.length v) (d := d) (fun v s e => g.nam s (hB v s e).1) (fun m => g.lay _ (hmem m)) d1 (by omega) r2 d3 d4 st.a y5 x6 x7 x8 x9 x10 d 0 (by omega) 200 (by omega)
    have f2' : whileR frT frW 200 (frF S C st.a bk (.str (itB st.B C.length v)) y5 x6 x7 x8 x9 x10 (W.w false (.sh (.str (itB st.B C.length v)))) (W.w false (.ol []))) = _ := f2
    refine ⟨ringL st.B d (itB st.B C.length v), ⟨?_, ?_, ?_, d5, ?_, ?_⟩, ?_⟩
    · intro z
      have := ringL_len d r2
      rw [z] at this
      simp at this; omega
    · rw [ringL_len d r2]; omega
    · exact ringL_mem (P := fun s => s ∈ S) (fun v s e => (hB v s e).1) d _
    · have key : ∀ (m : Nat) (w : Str), AllB st.B w → ∀ i s t, (ringL st.B m w)[i]? = some s → (ringL st.B m w)[i + 1]? = some t → s.1 = t.2.1 := by
        intro m
        induction m with
        | zero => intro w _ i s t h1; simp [ringL] at h1
        | succ m ih =>
          intro w ha i s t h1 h2
          obtain ⟨r, er⟩ := ha 0
          change st.B w = some r at er
          rw [ringL_next er] at h1 h2
          cases i with
          | zero =>
            simp at h1 h2
            subst h1
            cases m with
            | zero => simp [ringL] at h2
            | succ m =>
              obtain ⟨r', er'⟩ := (ha.next er) 0
              change st.B r.1 = some r' at er'
              rw [ringL_next er'] at h2
              simp at h2
              subst h2
              exact (hB _ _ er').2.symm
          | succ i =>
            simp at h1 h2
            exact ih r.1 (ha.next er) i s t h1 h2
      exact key d _ r2
    · intro s t h1 h2
      obtain ⟨m, rfl⟩ : ∃ m, d = m + 1 := ⟨d - 1, by omega⟩
      obtain ⟨r, er⟩ := r2 m
      rw [ringL_succ m r2 er] at h2
      have e2 : t = r := by simpa using h2.symm
      obtain ⟨q, eq⟩ := r2 0
      change st.B (itB st.B C.length v) = some q at eq
      rw [ringL_next eq] at h1
      have e3 : s = q := by simpa using h1.symm
      rw [e2, e3, (hB _ _ eq).2]
      have : itB st.B (m + 1) (itB st.B C.length v) = r.1 := by rw [itB_succ]; unfold bN'; rw [er]; rfl
      rw [← this, d3]
    · rw [e, hl]
      dsimp only [lastD]
      rw [ev_seq, f1]
      dsimp only
      have f3 : parO 11 12 (consO (shE (vE 3)) (consO (lstE nilL) nilO)) (frS S C st.a bk (.str (itB st.B C.length v)) y5 x6 x7 x8 x9 x10) = some (.nx (frF S C st.a bk (.str (itB st.B C.length v)) y5 x6 x7 x8 x9 x10 (W.w false (.sh (.str (itB st.B C.length v)))) (W.w false (.ol [])))) := by simp [frS, frF, small]
      rw [ev_seq, f3]
      dsimp only
      rw [seq_of f2']
      have hlen : (ringL st.B d (itB st.B C.length v)).length ≤ 9 := by rw [ringL_len d r2]; omega
      generalize ringL st.B d (itB st.B C.length v) = rr
      simp [frF, revP, tupleD]
  · left
    refine ⟨?_, q2⟩
    rw [e]
    simp [q1]
end Mi
/-! text S25 -/
set_option linter.all false
set_option maxRecDepth 100000
set_option maxHeartbeats 1000000
namespace Mi
open PySem L2 Dl TL
/-! ### longest chains (plain) -/
abbrev GM := Str → Str → Option Int
abbrev FM := Str → Str → Option Sp
def upd2 {β : Type} (g : Str → Str → β) (a b : Str) (x : β) : Str → Str → β := fun u v => if u = a ∧ v = b then x else g u v
theorem upd2_same {β : Type} {g : Str → Str → β} {a b : Str} {x : β} : upd2 g a b x a b = x := if_pos ⟨rfl, rfl⟩
theorem upd2_ne {β : Type} {g : Str → Str → β} {a b u v : Str} {x : β} (h : ¬ (u = a ∧ v = b)) : upd2 g a b x u v = g u v := if_neg h
/-- what is come to over m -/
def via (g : GM) (m a b : Str) : Option Int := match g a m, g m b with
  | some x, some y => some (x + y)
  | _, _ => none
def more? : Option Int → Option Int → Bool
  | none, _ => false
  | some _, none => true
  | some v, some w => decide (w < v)
theorem more_iff {n o : Option Int} : more? n o = true ↔ ∃ v, n = some v ∧ ∀ w, o = some w → w < v := by
  cases n with
  | none => simp [more?]
  | some v =>
    cases o with
    | none => simp [more?]
    | some w => simp [more?]
def takeG (g : GM) (a m b : Str) : GM := if more? (via g m a b) (g a b) then upd2 g a b (via g m a b) else g
def takeF (g : GM) (f : FM) (a m b : Str) : FM := if more? (via g m a b) (g a b) then upd2 f a b (f a m) else f
def clG (g : GM) (m : Str) : GM := fun a b => if more? (via g m a b) (g a b) then via g m a b else g a b
def clF (g : GM) (f : FM) (m : Str) : FM := fun a b => if more? (via g m a b) (g a b) then f a m else f a b
/-- within the lap over m: pairs of P are done -/
structure LapI (g0 : GM) (f0 : FM) (m : Str) (P : Str → Str → Prop) (g : GM) (f : FM) : Prop where
  yes : ∀ a b, P a b → g a b = clG g0 m a b ∧ f a b = clF g0 f0 m a b
  no : ∀ a b, ¬ P a b → g a b = g0 a b ∧ f a b = f0 a b
theorem no_more_r {g : GM} {m a : Str} (z : g m m = some 0) : more? (via g m a m) (g a m) = false := by
  unfold via
  rw [z]
  cases h : g a m with
  | none => rfl
  | some x => simp [more?]
theorem no_more_l {g : GM} {m b : Str} (z : g m m = some 0) : more? (via g m m b) (g m b) = false := by
  unfold via
  rw [z]
  cases h : g m b with
  | none => rfl
  | some x => simp [more?]
theorem LapI.fix_r {g0 : GM} {f0 : FM} {m : Str} {P : Str → Str → Prop} {g : GM} {f : FM} (h : LapI g0 f0 m P g f) (z : g0 m m = some 0) (a : Str) : g a m = g0 a m ∧ f a m = f0 a m := by
  by_cases q : P a m
  · obtain ⟨h1, h2⟩ := h.yes a m q
    unfold clG at h1; unfold clF at h2
    rw [no_more_r z] at h1 h2
    exact ⟨h1, h2⟩
  · exact h.no a m q
theorem LapI.fix_l {g0 : GM} {f0 : FM} {m : Str} {P : Str → Str → Prop} {g : GM} {f : FM} (h : LapI g0 f0 m P g f) (z : g0 m m = some 0) (b : Str) : g m b = g0 m b := by
  by_cases q : P m b
  · have h1 := (h.yes m b q).1
    unfold clG at h1
    rw [no_more_l z] at h1
    exact h1
  · exact (h.no m b q).1
theorem LapI.take {g0 : GM} {f0 : FM} {m : Str} {P : Str → Str → Prop} {g : GM} {f : FM} (h : LapI g0 f0 m P g f) (z : g0 m m = some 0) {a b : Str} (hp : ¬ P a b) : LapI g0 f0 m (fun u v => P u v ∨ (u = a ∧ v = b)) (takeG g a m b) (takeF g f a m b) := by
  have ev : via g m a b = via g0 m a b := by unfold via; rw [(h.fix_r z a).1, h.fix_l z b]
  have eg := (h.no a b hp).1
  have ef := (h.no a b hp).2
  have key : (takeG g a m b = upd2 g a b (clG g0 m a b)) ∧ (takeF g f a m b = upd2 f a b (clF g0 f0 m a b)) := by
    unfold takeG takeF clG clF
    rw [ev, eg]
    cases more? (via g0 m a b) (g0 a b) with
    | true =>
      exact ⟨by simp, by simp [(h.fix_r z a).2]⟩
    | false =>
      simp only [Bool.false_eq_true, if_false]
      refine ⟨?_, ?_⟩
      · funext u v
        by_cases q : u = a ∧ v = b
        · rw [q.1, q.2, upd2_same, eg]
        · rw [upd2_ne q]
      · funext u v
        by_cases q : u = a ∧ v = b
        · rw [q.1, q.2, upd2_same, ef]
        · rw [upd2_ne q]
  rw [key.1, key.2]
  refine ⟨fun u v q => ?_, fun u v q => ?_⟩
  · by_cases e : u = a ∧ v = b
    · rw [e.1, e.2, upd2_same, upd2_same]; exact ⟨rfl, rfl⟩
    · rw [upd2_ne e, upd2_ne e]; exact h.yes u v (q.resolve_right e)
  · have e : ¬ (u = a ∧ v = b) := fun e => q (.inr e)
    rw [upd2_ne e, upd2_ne e]
    exact h.no u v fun z => q (.inl z)
theorem LapI.mono {g0 : GM} {f0 : FM} {m : Str} {P P' : Str → Str → Prop} {g : GM} {f : FM} (h : LapI g0 f0 m P g f) (e : ∀ u v, P u v ↔ P' u v) : LapI g0 f0 m P' g f := ⟨fun a b q => h.yes a b ((e a b).mpr q), fun a b q => h.no a b fun z => q ((e a b).mp z)⟩
/-- behind so many laps -/
structure FW (S : List Sp) (C K : List Str) (k : Nat) (g : GM) (f : FM) (R : Str → Str → Nat) : Prop where
  z : ∀ a ∈ C, g a a = some 0
  dom : ∀ a b w, g a b = some w → a ∈ C ∧ b ∈ C
  u : ∀ p, Pot' S p → ∀ a b w, g a b = some w → w ≤ p b - p a
  d : ∀ s ∈ S, s.1 ≠ s.2.1 → ∃ w, g s.1 s.2.1 = some w ∧ s.2.2.1 ≤ w
  cl : ∀ m ∈ K, ∀ a b x y, g a m = some x → g m b = some y → ∃ w, g a b = some w ∧ x + y ≤ w
  ft : ∀ a b, a ≠ b → ∀ w, g a b = some w → ∃ s ∈ S, f a b = some s ∧ s.1 = a ∧ ∃ v, g s.2.1 b = some v ∧ w ≤ s.2.2.1 + v ∧ (s.2.1 ≠ b → w = s.2.2.1 + v → R s.2.1 b < R a b)
  rk : ∀ a b, R a b < 2 ^ k
theorem via_some {g : GM} {m a b : Str} {v : Int} (h : via g m a b = some v) : ∃ x y, g a m = some x ∧ g m b = some y ∧ v = x + y := by
  unfold via at h
  split at h
  · rename_i x y h1 h2; cases h; exact ⟨x, y, h1, h2, rfl⟩
  · cases h
theorem via_of {g : GM} {m a b : Str} {x y : Int} (h1 : g a m = some x) (h2 : g m b = some y) : via g m a b = some (x + y) := by unfold via; rw [h1, h2]
/-- the closed form is no less -/
theorem clG_ge {g : GM} {m a b : Str} {w : Int} (h : g a b = some w) : ∃ w', clG g m a b = some w' ∧ w ≤ w' := by
  unfold clG
  cases hm : more? (via g m a b) (g a b) with
  | true =>
    obtain ⟨v, h1, h2⟩ := more_iff.mp hm
    exact ⟨v, by simpa using h1, by have := h2 w h; omega⟩
  | false => exact ⟨w, by simpa using h, Int.le_refl _⟩
theorem clG_via {g : GM} {m a b : Str} {v : Int} (h : via g m a b = some v) : ∃ w', clG g m a b = some w' ∧ v ≤ w' := by
  unfold clG
  cases hm : more? (via g m a b) (g a b) with
  | true => exact ⟨v, by simpa using h, Int.le_refl _⟩
  | false =>
    rw [h] at hm
    cases hg : g a b with
    | none => rw [hg] at hm; cases hm
    | some w =>
      rw [hg] at hm
      simp only [more?, decide_eq_false_iff_not] at hm
      exact ⟨w, by simp, by omega⟩
theorem clG_cases {g : GM} {m a b : Str} {w : Int} (h : clG g m a b = some w) : (more? (via g m a b) (g a b) = true ∧ via g m a b = some w) ∨ (more? (via g m a b) (g a b) = false ∧ g a b = some w) := by
  unfold clG at h
  cases hm : more? (via g m a b) (g a b) with
  | true => rw [hm] at h; exact .inl ⟨rfl, by simpa using h⟩
  | false => rw [hm] at h; exact .inr ⟨rfl, by simpa using h⟩
def clR (g : GM) (R : Str → Str → Nat) (k : Nat) (m : Str) : Str → Str → Nat := fun a b => if more? (via g m a b) (g a b) then 2 ^ k + R a m else R a b
theorem FW.lap {S : List Sp} {C K : List Str} {k : Nat} {g : GM} {f : FM} {R : Str → Str → Nat} (h : FW S C K k g f R) (pot : ∃ p, Pot' S p) {m : Str} (hm : m ∈ C) : FW S C (K ++ [m]) (k + 1) (clG g m) (clF g f m) (clR g R k m) := by
  have zm := h.z m hm
  have U : ∀ p, Pot' S p → ∀ a b w, clG g m a b = some w → w ≤ p b - p a := fun p hp a b w hw => by
    rcases clG_cases hw with ⟨_, q⟩ | ⟨_, q⟩
    · obtain ⟨x, y, h1, h2, rfl⟩ := via_some q
      have := h.u p hp _ _ _ h1; have := h.u p hp _ _ _ h2; omega
    · exact h.u p hp _ _ _ q
  obtain ⟨p0, hp0⟩ := pot
  have zz : ∀ a ∈ C, clG g m a a = some 0 := fun a ha => by
    obtain ⟨w, h1, h2⟩ := clG_ge (m := m) (h.z a ha)
    have := U p0 hp0 _ _ _ h1
    rw [h1]; congr 1; omega
  have nm : ∀ a b, more? (via g m a b) (g a b) = true → a ≠ m ∧ b ≠ m := fun a b q => by
    refine ⟨fun e => ?_, fun e => ?_⟩
    · rw [e, no_more_l zm] at q; cases q
    · rw [e, no_more_r zm] at q; cases q
  have keep_r : ∀ a, clG g m a m = g a m := fun a => by unfold clG; rw [no_more_r zm]; rfl
  have keep_l : ∀ b, clG g m m b = g m b := fun b => by unfold clG; rw [no_more_l zm]; rfl
  refine ⟨zz, ?_, U, ?_, ?_, ?_, ?_⟩
  · intro a b w hw
    rcases clG_cases hw with ⟨_, q⟩ | ⟨_, q⟩
    · obtain ⟨x, y, h1, h2, _⟩ := via_some q
      exact ⟨(h.dom _ _ _ h1).1, (h.dom _ _ _ h2).2⟩
    · exact h.dom _ _ _ q
  · intro s hs ne
    obtain ⟨w, h1, h2⟩ := h.d s hs ne
    obtain ⟨w', h3, h4⟩ := clG_ge (m := m) h1
    exact ⟨w', h3, by omega⟩
  · intro m' hm' a b x y hx hy
    rcases List.mem_append.mp hm' with hm' | hm'
    · -- an earlier one
      rcases clG_cases hx with ⟨_, qx⟩ | ⟨_, qx⟩ <;> rcases clG_cases hy with ⟨_, qy⟩ | ⟨_, qy⟩
      · obtain ⟨x1, x2, e1, e2, rfl⟩ := via_some qx
        obtain ⟨y1, y2, e3, e4, rfl⟩ := via_some qy
        obtain ⟨w0, e5, e6⟩ := h.cl m' hm' m m x2 y1 e2 e3
        rw [zm] at e5; cases e5
        obtain ⟨w, e7, e8⟩ := clG_via (via_of e1 e4)
        exact ⟨w, e7, by omega⟩
      · obtain ⟨x1, x2, e1, e2, rfl⟩ := via_some qx
        obtain ⟨w0, e5, e6⟩ := h.cl m' hm' m b x2 y e2 qy
        obtain ⟨w, e7, e8⟩ := clG_via (via_of e1 e5)
        exact ⟨w, e7, by omega⟩
      · obtain ⟨y1, y2, e3, e4, rfl⟩ := via_some qy
        obtain ⟨w0, e5, e6⟩ := h.cl m' hm' a m x y1 qx e3
        obtain ⟨w, e7, e8⟩ := clG_via (via_of e5 e4)
        exact ⟨w, e7, by omega⟩
      · obtain ⟨w0, e5, e6⟩ := h.cl m' hm' a b x y qx qy
        obtain ⟨w, e7, e8⟩ := clG_ge (m := m) e5
        exact ⟨w, e7, by omega⟩
    · have : m' = m := by simpa using hm'
      subst this
      rw [keep_r] at hx
      rw [keep_l] at hy
      exact clG_via (via_of hx hy)
  · intro a b ne w hw
    rcases clG_cases hw with ⟨q1, q⟩ | ⟨q1, q⟩
    · obtain ⟨x, y, h1, h2, rfl⟩ := via_some q
      obtain ⟨na, nb⟩ := nm a b q1
      obtain ⟨s, hs, e1, e2, v, e3, e4, e5⟩ := h.ft a m na x h1
      refine ⟨s, hs, by unfold clF; rw [q1]; exact e1, e2, ?_⟩
      obtain ⟨v', e6, e7⟩ := clG_via (via_of e3 h2)
      refine ⟨v', e6, by omega, fun n1 n2 => ?_⟩
      have n3 : x = s.2.2.1 + v := by omega
      have n4 : v' = v + y := by omega
      unfold clR
      rw [q1]
      simp only [if_true]
      cases hu : more? (via g m s.2.1 b) (g s.2.1 b) with
      | true =>
        have n5 := (nm _ _ hu).1
        have := e5 n5 n3
        simp only [if_true]
        omega
      | false =>
        simp only [Bool.false_eq_true, if_false]
        have := h.rk s.2.1 b
        omega
    · obtain ⟨s, hs, e1, e2, v, e3, e4, e5⟩ := h.ft a b ne w q
      obtain ⟨v', e6, e7⟩ := clG_ge (m := m) e3
      refine ⟨s, hs, by unfold clF; rw [q1]; exact e1, e2, v', e6, by omega, fun n1 n2 => ?_⟩
      have n3 : v' = v := by omega
      have n4 := e5 n1 (by omega)
      unfold clR
      rw [q1]
      simp only [Bool.false_eq_true, if_false]
      cases hu : more? (via g m s.2.1 b) (g s.2.1 b) with
      | true =>
        obtain ⟨v2, h1, h2⟩ := more_iff.mp hu
        have h3 := h2 v e3
        unfold clG at e6
        rw [hu] at e6
        simp only [if_true] at e6
        rw [h1] at e6; cases e6
        omega
      | false => simpa using n4
  · intro a b
    unfold clR
    have := h.rk a m; have := h.rk a b
    rw [Nat.pow_succ]
    split <;> omega
end Mi
/-! text S26 -/
set_option linter.all false
set_option maxRecDepth 100000
set_option maxHeartbeats 1000000
namespace Mi
open PySem L2 Dl TL
theorem n_rch : ("own_steps" : Str) ≠ "own_clocks" ∧ ("own_steps" : Str) ≠ "own_ring" ∧ ("own_steps" : Str) ≠ "own_most" ∧ ("own_steps" : Str) ≠ "own_first" ∧ ("own_clocks" : Str) ≠ "own_ring" ∧ ("own_clocks" : Str) ≠ "own_most" ∧ ("own_clocks" : Str) ≠ "own_first" ∧ ("own_ring" : Str) ≠ "own_most" ∧ ("own_ring" : Str) ≠ "own_first" ∧ ("own_most" : Str) ≠ "own_first" := by decide +kernel
abbrev MoL := List (List Key × D)
def rgL (S : List Sp) (C : List Str) (r : D) (mo fi : MoL) : List (Str × O) := [("own_steps", .sh (.lst (S.map spD))), ("own_clocks", .sh (.lst (strsL C))), ("own_ring", .sh r), ("own_most", .ot mo), ("own_first", .ot fi)]
section
variable {S : List Sp} {C : List Str} {r : D} {mo fi mo' fi' : MoL}
@[simp] theorem rg_steps : fget "own_steps" (rgL S C r mo fi) = some (.sh (.lst (S.map spD))) := by simp [rgL, fget]
@[simp] theorem rg_clocks : fget "own_clocks" (rgL S C r mo fi) = some (.sh (.lst (strsL C))) := by simp [rgL, fget, n_rch]
@[simp] theorem rg_ring : fget "own_ring" (rgL S C r mo fi) = some (.sh r) := by simp [rgL, fget, n_rch]
@[simp] theorem rg_most : fget "own_most" (rgL S C r mo fi) = some (.ot mo) := by simp [rgL, fget, n_rch]
@[simp] theorem rg_first : fget "own_first" (rgL S C r mo fi) = some (.ot fi) := by simp [rgL, fget, n_rch]
@[simp] theorem rg_pm : fput "own_most" (.ot mo') (rgL S C r mo fi) = rgL S C r mo' fi := by simp [rgL, fput, n_rch]
@[simp] theorem rg_pf : fput "own_first" (.ot fi') (rgL S C r mo fi) = rgL S C r mo fi' := by simp [rgL, fput, n_rch]
theorem rg_no {m : Str} (h : decide (("own_steps" : Str) ≠ m ∧ ("own_clocks" : Str) ≠ m ∧ ("own_ring" : Str) ≠ m ∧ ("own_most" : Str) ≠ m ∧ ("own_first" : Str) ≠ m) = true) : fget m (rgL S C r mo fi) = none := by
  obtain ⟨h1, h2, h3, h4, h5⟩ := of_decide_eq_true h
  simp [rgL, fget, h1, h2, h3, h4, h5]
@[simp] theorem rg_take : fget "take" (rgL S C r mo fi) = none := rg_no (by decide +kernel)
end
def MRep (g : GM) (mo : MoL) : Prop := ∀ a b, kget ([.inr a, .inr b] : List Key) mo = (g a b).map D.int
def FRep (f : FM) (fi : MoL) : Prop := ∀ a b, kget ([.inr a, .inr b] : List Key) fi = (f a b).map spD
theorem key2 {a b u v : Str} : (([.inr a, .inr b] : List Key) = [.inr u, .inr v]) ↔ (u = a ∧ v = b) := by
  simp only [List.cons.injEq, Sum.inr.injEq, and_true]
  exact ⟨fun h => ⟨h.1.symm, h.2.symm⟩, fun h => ⟨h.1.symm, h.2.symm⟩⟩
theorem MRep.put {g : GM} {mo : MoL} (h : MRep g mo) (a b : Str) (x : Int) : MRep (upd2 g a b (some x)) (kput mo ([.inr a, .inr b] : List Key) (.int x)) := fun u v => by
  rw [kget_kput]
  by_cases e : u = a ∧ v = b
  · rw [if_pos (key2.mpr e), e.1, e.2, upd2_same]; rfl
  · rw [if_neg (fun z => e (key2.mp z)), upd2_ne e]; exact h u v
theorem FRep.put {f : FM} {fi : MoL} (h : FRep f fi) (a b : Str) (s : Sp) : FRep (upd2 f a b (some s)) (kput fi ([.inr a, .inr b] : List Key) (spD s)) := fun u v => by
  rw [kget_kput]
  by_cases e : u = a ∧ v = b
  · rw [if_pos (key2.mpr e), e.1, e.2, upd2_same]; rfl
  · rw [if_neg (fun z => e (key2.mp z)), upd2_ne e]; exact h u v
theorem inO_ot (neg : Bool) (mo : MoL) (a b : Str) : inO neg (.ot mo) (.tup [.str a, .str b]) = some (.bl (if neg then !(kget ([.inr a, .inr b] : List Key) mo).isSome else (kget ([.inr a, .inr b] : List Key) mo).isSome)) := rfl
theorem subO_ot (mo : MoL) (a b : Str) : subO (.ot mo) (.tup [.str a, .str b]) = kget ([.inr a, .inr b] : List Key) mo := rfl
theorem putO_ot {mo : MoL} (h : mo.length ≤ 100000) (a b : Str) (d : D) : putO (.ot mo) (.tup [.str a, .str b]) d = some (.ot (kput mo ([.inr a, .inr b] : List Key) d)) := by
  show (if small mo.length then some (O.ot (kput mo ([.inr a, .inr b] : List Key) d)) else none) = _
  have : small mo.length = true := decide_eq_true h
  rw [this]; rfl
theorem p_take {S : List Sp} {C : List Str} {r : D} {g : GM} {f : FM} {mo fi : MoL} (hg : MRep g mo) (hf : FRep f fi) (l1 : mo.length ≤ 9000) (l2 : fi.length ≤ 9000) (a m b : Str) (hfst : more? (via g m a b) (g a b) = true → ∃ s, f a m = some s) :
    ∃ mo' fi', m_Reach_take (.ob "Reach" (rgL S C r mo fi)) [.str a, .str m, .str b] = some (.sh .non, .ob "Reach" (rgL S C r mo' fi')) ∧ MRep (takeG g a m b) mo' ∧ FRep (takeF g f a m b) fi' ∧ mo'.length ≤ mo.length + 1 ∧ fi'.length ≤ fi.length + 1 := by
  have k1 := hg a m
  have k2 := hg m b
  have k3 := hg a b
  have k4 := hf a m
  have hl1 : mo.length ≤ 100000 := by omega
  have hl2 : fi.length ≤ 100000 := by omega
  unfold takeG takeF
  cases e1 : g a m with
  | none =>
    have ev : via g m a b = none := by unfold via; rw [e1]
    rw [ev]
    rw [e1] at k1
    refine ⟨mo, fi, ?_, by simpa [more?] using hg, by simpa [more?] using hf, by omega, by omega⟩
    unfold m_Reach_take fnR g_Reach_take
    simp [small, inO_ot, k1]
  | some x =>
    rw [e1] at k1
    cases e2 : g m b with
    | none =>
      have ev : via g m a b = none := by unfold via; rw [e1, e2]
      rw [ev]
      rw [e2] at k2
      refine ⟨mo, fi, ?_, by simpa [more?] using hg, by simpa [more?] using hf, by omega, by omega⟩
      unfold m_Reach_take fnR g_Reach_take
      simp [small, inO_ot, k1, k2]
    | some y =>
      rw [e2] at k2
      have ev := via_of (g := g) e1 e2
      rw [ev] at hfst ⊢
      cases hm : more? (some (x + y)) (g a b) with
      | true =>
        obtain ⟨s, es⟩ := hfst hm
        rw [es] at k4
        simp only [if_true]
        rw [es]
        refine ⟨_, _, ?_, hg.put a b (x + y), hf.put a b s, kput_len, kput_len⟩
        unfold m_Reach_take fnR g_Reach_take
        cases e3 : g a b with
        | none =>
          rw [e3] at k3
          simp [small, inO_ot, subO_ot, putO_ot hl1, putO_ot hl2, k1, k2, k3, k4]
        | some w =>
          rw [e3] at k3 hm
          have hw : w < x + y := of_decide_eq_true hm
          simp [small, inO_ot, subO_ot, putO_ot hl1, putO_ot hl2, k1, k2, k3, k4, hw]
      | false =>
        simp only [Bool.false_eq_true, if_false]
        refine ⟨mo, fi, ?_, hg, hf, by omega, by omega⟩
        unfold m_Reach_take fnR g_Reach_take
        cases e3 : g a b with
        | none => rw [e3] at hm; cases hm
        | some w =>
          rw [e3] at k3 hm
          have hw : ¬ w < x + y := of_decide_eq_false hm
          simp [small, inO_ot, subO_ot, k1, k2, k3, hw]
end Mi
/-! text S27 -/
set_option linter.all false
set_option maxRecDepth 100000
set_option maxHeartbeats 1000000
namespace Mi
open PySem L2 Dl TL
abbrev goS (S : List Sp) (C : List Str) (r : D) (mo fi : MoL) (x1 x2 x3 x4 x5 x6 : W) : List W := [W.w true (.ob "Reach" (rgL S C r mo fi)), x1, x2, x3, x4, x5, x6]
abbrev goB3 : DS := dropS (frE (methR "Reach" "take" 4 m_Reach_take 0 (consL (vE 2) (consL (vE 6) (consL (vE 3) nilL)))))
abbrev goB2 : DS := forS (itE seqS' (pE (.fd 0 "Reach" "own_clocks"))) (bN 3) goB3
abbrev goB1 : DS := forS (itE seqS' (pE (.fd 0 "Reach" "own_clocks"))) (bN 2) goB2
structure GS (S : List Sp) (C : List Str) (g : GM) (f : FM) (mo fi : MoL) (n : Nat) : Prop where
  hg : MRep g mo
  hf : FRep f fi
  l1 : mo.length ≤ n
  l2 : fi.length ≤ n
theorem it_clocks {S : List Sp} {C : List Str} {r : D} {mo fi : MoL} {x1 x2 x3 x4 x5 x6 : W} : itE seqS' (pE (.fd 0 "Reach" "own_clocks")) (goS S C r mo fi x1 x2 x3 x4 x5 x6) = some (C.map D.str, goS S C r mo fi x1 x2 x3 x4 x5 x6) := by
  have : strsL C = C.map D.str := rfl
  simp [seqS', seqD, ← this]
/-- a row of a lap -/
theorem go_row {S : List Sp} {C : List Str} {r : D} (cu : C.Nodup) (cl : C.length ≤ 9) {g0 : GM} {f0 : FM} {m : Str} (z : g0 m m = some 0) (hfst : ∀ a b w, a ≠ b → g0 a b = some w → ∃ s, f0 a b = some s) (P : Str → Str → Prop) (a : Str) (hP : ∀ b, ¬ P a b) {g : GM} {f : FM} {mo fi : MoL} {n : Nat} (hn : n ≤ 8000) (li : LapI g0 f0 m P g f) (gs : GS S C g f mo fi n) (x1 x3 x4 x5 : W) :
    ∃ g' f' mo' fi' y3, LapI g0 f0 m (fun u v => P u v ∨ (u = a ∧ v ∈ C)) g' f' ∧ GS S C g' f' mo' fi' (n + C.length) ∧
      goB2 (goS S C r mo fi x1 (W.w false (.sh (.str a))) x3 x4 x5 (W.w false (.sh (.str m)))) = some (.nx (goS S C r mo' fi' x1 (W.w false (.sh (.str a))) y3 x4 x5 (W.w false (.sh (.str m))))) := by
  obtain ⟨ρ, e, g', f', mo', fi', y3, i1, i2, rfl⟩ := forR_rel0 (l := C) (enc := D.str) (b := bN 3) (body := goB3) (ρ := goS S C r mo fi x1 (W.w false (.sh (.str a))) x3 x4 x5 (W.w false (.sh (.str m))))
    (fun E ρ => ∃ g' f' mo' fi' y3, LapI g0 f0 m (fun u v => P u v ∨ (u = a ∧ v ∈ E)) g' f' ∧ GS S C g' f' mo' fi' (n + E.length) ∧ ρ = goS S C r mo' fi' x1 (W.w false (.sh (.str a))) y3 x4 x5 (W.w false (.sh (.str m))))
    (fun E b c ρ e ⟨g', f', mo', fi', y3, i1, i2, er⟩ => by
      subst er
      have hb : b ∉ E := by rw [e] at cu; exact nodup_pre cu
      have hE : E.length + 1 ≤ C.length := by rw [e]; simp
      have hnp : ¬ (P a b ∨ (a = a ∧ b ∈ E)) := fun q => q.elim (hP b) fun q => hb q.2
      have l1 := i2.l1
      have l2 := i2.l2
      obtain ⟨mo2, fi2, q1, q2, q3, q4, q5⟩ := p_take (S := S) (C := C) (r := r) i2.hg i2.hf (by omega) (by omega) a m b (fun hm => by
        obtain ⟨v, hv, hw⟩ := more_iff.mp hm
        obtain ⟨x, y, h1, h2, rfl⟩ := via_some hv
        have fr := i1.fix_r z a
        rw [fr.1] at h1
        rw [fr.2]
        refine hfst a m x (fun q => ?_) h1
        subst q
        have := no_more_l (g := g') (m := a) (b := b) ((i1.fix_r z a).1.trans z)
        rw [this] at hm; cases hm) 
      refine ⟨goS S C r mo' fi' x1 (W.w false (.sh (.str a))) (W.w false (.sh (.str b))) x4 x5 (W.w false (.sh (.str m))), goS S C r mo2 fi2 x1 (W.w false (.sh (.str a))) (W.w false (.sh (.str b))) x4 x5 (W.w false (.sh (.str m))), rfl, ?_, takeG g' a m b, takeF g' f' a m b, mo2, fi2, _, (i1.take z hnp).mono fun u v => ?_, ⟨q2, q3, by rw [List.length_append, List.length_singleton]; omega, by rw [List.length_append, List.length_singleton]; omega⟩, rfl⟩
      · simp [goB3, goS, q1]
      · rw [List.mem_append, List.mem_singleton]
        constructor
        · rintro ((q | q) | q)
          · exact .inl q
          · exact .inr ⟨q.1, .inl q.2⟩
          · exact .inr ⟨q.1, .inr q.2⟩
        · rintro (q | ⟨q1, q2 | q2⟩)
          · exact .inl (.inl q)
          · exact .inl (.inr ⟨q1, q2⟩)
          · exact .inr ⟨q1, q2⟩)
    ⟨g, f, mo, fi, x3, li.mono fun u v => by simp, gs, rfl⟩
  refine ⟨g', f', mo', fi', y3, i1, i2, ?_⟩
  show forS _ _ _ _ = _
  rw [ev_for, it_clocks]
  exact e
theorem go_lap {S : List Sp} {C : List Str} {r : D} (cu : C.Nodup) (cl : C.length ≤ 9) {g0 : GM} {f0 : FM} {m : Str} (dom : ∀ a b w, g0 a b = some w → a ∈ C ∧ b ∈ C) (z : g0 m m = some 0) (hfst : ∀ a b w, a ≠ b → g0 a b = some w → ∃ s, f0 a b = some s) {mo fi : MoL} {n : Nat} (hn : n ≤ 7000) (gs : GS S C g0 f0 mo fi n) (x1 x2 x3 x4 x5 : W) :
    ∃ mo' fi' y2 y3, GS S C (clG g0 m) (clF g0 f0 m) mo' fi' (n + 81) ∧
      goB1 (goS S C r mo fi x1 x2 x3 x4 x5 (W.w false (.sh (.str m)))) = some (.nx (goS S C r mo' fi' x1 y2 y3 x4 x5 (W.w false (.sh (.str m))))) := by
  obtain ⟨ρ, e, g', f', mo', fi', y2, y3, i1, i2, rfl⟩ := forR_rel0 (l := C) (enc := D.str) (b := bN 2) (body := goB2) (ρ := goS S C r mo fi x1 x2 x3 x4 x5 (W.w false (.sh (.str m))))
    (fun A ρ => ∃ g' f' mo' fi' y2 y3, LapI g0 f0 m (fun u v => u ∈ A ∧ v ∈ C) g' f' ∧ GS S C g' f' mo' fi' (n + 9 * A.length) ∧ ρ = goS S C r mo' fi' x1 y2 y3 x4 x5 (W.w false (.sh (.str m))))
    (fun A a c ρ e ⟨g', f', mo', fi', y2, y3, i1, i2, er⟩ => by
      subst er
      have ha : a ∉ A := by rw [e] at cu; exact nodup_pre cu
      have hA : A.length + 1 ≤ C.length := by rw [e]; simp
      obtain ⟨g2, f2, mo2, fi2, y3', j1, j2, j3⟩ := go_row (S := S) (r := r) cu cl z hfst (fun u v => u ∈ A ∧ v ∈ C) a (fun b q => ha q.1) (by omega) i1 i2 x1 y3 x4 x5
      refine ⟨goS S C r mo' fi' x1 (W.w false (.sh (.str a))) y3 x4 x5 (W.w false (.sh (.str m))), _, rfl, j3, g2, f2, mo2, fi2, _, _, j1.mono fun u v => ?_, ⟨j2.hg, j2.hf, ?_, ?_⟩, rfl⟩
      · rw [List.mem_append, List.mem_singleton]
        constructor
        · rintro (q | q)
          · exact ⟨.inl q.1, q.2⟩
          · exact ⟨.inr q.1, q.2⟩
        · rintro ⟨q | q, q2⟩
          · exact .inl ⟨q, q2⟩
          · exact .inr ⟨q, q2⟩
      · have := j2.l1; rw [List.length_append, List.length_singleton]; omega
      · have := j2.l2; rw [List.length_append, List.length_singleton]; omega)
    ⟨g0, f0, mo, fi, x2, x3, ⟨fun a b q => (by cases q.1), fun a b _ => ⟨rfl, rfl⟩⟩, gs, rfl⟩
  have full : g' = clG g0 m ∧ f' = clF g0 f0 m := by
    have k : ∀ a b, g' a b = clG g0 m a b ∧ f' a b = clF g0 f0 m a b := fun a b => by
      by_cases q : a ∈ C ∧ b ∈ C
      · exact i1.yes a b q
      · have h1 := i1.no a b q
        have h2 : via g0 m a b = none := by
          cases hv : via g0 m a b with
          | none => rfl
          | some v =>
            obtain ⟨x, y, e1, e2, _⟩ := via_some hv
            exact absurd ⟨(dom _ _ _ e1).1, (dom _ _ _ e2).2⟩ q
        unfold clG clF
        rw [h2]
        exact h1
    exact ⟨funext fun a => funext fun b => (k a b).1, funext fun a => funext fun b => (k a b).2⟩
  rw [full.1, full.2] at i2
  refine ⟨mo', fi', y2, y3, ⟨i2.hg, i2.hf, by have := i2.l1; omega, by have := i2.l2; omega⟩, ?_⟩
  show forS _ _ _ _ = _
  rw [ev_for, it_clocks]
  exact e
/-- all laps -/
theorem go_laps {S : List Sp} {C : List Str} {r : D} (cu : C.Nodup) (cl : C.length ≤ 9) (pot : ∃ p, Pot' S p) {g : GM} {f : FM} {R : Str → Str → Nat} {mo fi : MoL} {n : Nat} (hn : n ≤ 1000) (fw : FW S C [] 0 g f R) (gs : GS S C g f mo fi n) (x1 x2 x3 x4 x5 x6 : W) :
    ∃ g' f' R' mo' fi' ρ2, FW S C C C.length g' f' R' ∧ MRep g' mo' ∧ FRep f' fi' ∧ forS (itE seqS' (pE (.fd 0 "Reach" "own_clocks"))) (bN 6) goB1 (goS S C r mo fi x1 x2 x3 x4 x5 x6) = some (.nx ρ2) ∧ ρ2[0]? = some (W.w true (.ob "Reach" (rgL S C r mo' fi'))) := by
  obtain ⟨ρ, e, g', f', R', mo', fi', y2, y3, y6, i1, i2, rfl⟩ := forR_rel0 (l := C) (enc := D.str) (b := bN 6) (body := goB1) (ρ := goS S C r mo fi x1 x2 x3 x4 x5 x6)
    (fun K ρ => ∃ g' f' R' mo' fi' y2 y3 y6, FW S C K K.length g' f' R' ∧ GS S C g' f' mo' fi' (n + 81 * K.length) ∧ ρ = goS S C r mo' fi' x1 y2 y3 x4 x5 y6)
    (fun K m c ρ e ⟨g', f', R', mo', fi', y2, y3, y6, i1, i2, er⟩ => by
      subst er
      have hm : m ∈ C := by rw [e]; simp
      have hK : K.length + 1 ≤ C.length := by rw [e]; simp
      obtain ⟨mo2, fi2, z2, z3, j1, j2⟩ := go_lap (S := S) (r := r) cu cl i1.dom (i1.z m hm) (fun a b w ne hw => by
        obtain ⟨s, _, h1, _⟩ := i1.ft a b ne w hw
        exact ⟨s, h1⟩) (by omega) i2 x1 y2 y3 x4 x5
      refine ⟨_, _, rfl, j2, clG g' m, clF g' f' m, clR g' R' K.length m, mo2, fi2, _, _, _, ?_, ⟨j1.hg, j1.hf, ?_, ?_⟩, rfl⟩
      · rw [List.length_append, List.length_singleton]; exact i1.lap pot hm
      · have := j1.l1; rw [List.length_append, List.length_singleton]; omega
      · have := j1.l2; rw [List.length_append, List.length_singleton]; omega)
    ⟨g, f, R, mo, fi, x2, x3, x6, fw, gs, rfl⟩
  refine ⟨g', f', R', mo', fi', goS S C r mo' fi' x1 y2 y3 x4 x5 y6, i1, i2.hg, i2.hf, ?_, rfl⟩
  rw [ev_for, it_clocks]
  exact e
end Mi
/-! text S28 -/
set_option linter.all false
set_option maxRecDepth 100000
set_option maxHeartbeats 1000000
namespace Mi
open PySem L2 Dl TL
/-! ### the first rows -/
structure II (S : List Sp) (C : List Str) (done : List Sp) (g : GM) (f : FM) : Prop where
  z : ∀ a ∈ C, g a a = some 0
  dom : ∀ a b w, g a b = some w → a ∈ C ∧ b ∈ C
  d : ∀ s ∈ done, s.1 ≠ s.2.1 → ∃ w, g s.1 s.2.1 = some w ∧ s.2.2.1 ≤ w
  fs : ∀ a b, a ≠ b → ∀ w, g a b = some w → ∃ s ∈ S, f a b = some s ∧ s.1 = a ∧ s.2.1 = b ∧ s.2.2.1 = w
def inG (g : GM) (s : Sp) : GM := if s.1 ≠ s.2.1 ∧ more? (some s.2.2.1) (g s.1 s.2.1) = true then upd2 g s.1 s.2.1 (some s.2.2.1) else g
def inF (g : GM) (f : FM) (s : Sp) : FM := if s.1 ≠ s.2.1 ∧ more? (some s.2.2.1) (g s.1 s.2.1) = true then upd2 f s.1 s.2.1 (some s) else f
theorem II.step {S : List Sp} {C : List Str} {done : List Sp} {g : GM} {f : FM} (h : II S C done g f) {s : Sp} (hs : s ∈ S) (m1 : s.1 ∈ C) (m2 : s.2.1 ∈ C) : II S C (done ++ [s]) (inG g s) (inF g f s) := by
  unfold inG inF
  by_cases q : s.1 ≠ s.2.1 ∧ more? (some s.2.2.1) (g s.1 s.2.1) = true
  · rw [if_pos q, if_pos q]
    obtain ⟨q1, q2⟩ := q
    obtain ⟨v, hv, hw⟩ := more_iff.mp q2
    cases hv
    refine ⟨?_, ?_, ?_, ?_⟩
    · intro a ha
      rw [upd2_ne (fun e => q1 (e.1.symm.trans e.2))]
      exact h.z a ha
    · intro a b w hw
      by_cases e : a = s.1 ∧ b = s.2.1
      · rw [e.1, e.2]; exact ⟨m1, m2⟩
      · rw [upd2_ne e] at hw; exact h.dom a b w hw
    · intro r hr ne
      by_cases e : r.1 = s.1 ∧ r.2.1 = s.2.1
      · rw [e.1, e.2, upd2_same]
        refine ⟨_, rfl, ?_⟩
        rcases List.mem_append.mp hr with hr | hr
        · obtain ⟨w, h1, h2⟩ := h.d r hr ne
          rw [e.1, e.2] at h1
          have := hw w h1; omega
        · have : r = s := by simpa using hr
          subst this; exact Int.le_refl _
      · rw [upd2_ne e]
        rcases List.mem_append.mp hr with hr | hr
        · exact h.d r hr ne
        · have : r = s := by simpa using hr
          subst this; exact absurd ⟨rfl, rfl⟩ e
    · intro a b ne w hw
      by_cases e : a = s.1 ∧ b = s.2.1
      · rw [e.1, e.2, upd2_same] at hw
        cases hw
        exact ⟨s, hs, by rw [e.1, e.2, upd2_same], e.1.symm, e.2.symm, rfl⟩
      · rw [upd2_ne e] at hw ⊢
        exact h.fs a b ne w hw
  · rw [if_neg q, if_neg q]
    refine ⟨h.z, h.dom, ?_, h.fs⟩
    intro r hr ne
    rcases List.mem_append.mp hr with hr | hr
    · exact h.d r hr ne
    · have : r = s := by simpa using hr
      subst this
      cases e : g r.1 r.2.1 with
      | none => exact absurd ⟨ne, by rw [e]; rfl⟩ q
      | some w =>
        refine ⟨w, rfl, ?_⟩
        by_cases hh : w < r.2.2.1
        · exact absurd ⟨ne, by rw [e]; exact decide_eq_true hh⟩ q
        · omega
theorem II.fw {S : List Sp} {C : List Str} {g : GM} {f : FM} (h : II S C S g f) : FW S C [] 0 g f (fun _ _ => 0) where
  z := h.z
  dom := h.dom
  u := fun p hp a b w hw => by
    by_cases e : a = b
    · subst e
      have := h.z a (h.dom _ _ _ hw).1
      rw [hw] at this; cases this; omega
    · obtain ⟨s, hs, _, e1, e2, e3⟩ := h.fs a b e w hw
      have := hp s hs
      rw [e1, e2] at this; omega
  d := h.d
  cl := fun m hm => by cases hm
  ft := fun a b ne w hw => by
    obtain ⟨s, hs, e0, e1, e2, e3⟩ := h.fs a b ne w hw
    refine ⟨s, hs, e0, e1, 0, by rw [e2]; exact h.z b (h.dom _ _ _ hw).2, by omega, fun n => absurd e2 n⟩
  rk := fun a b => by simp
abbrev goI : DS := (seqS (asG (vE 1) (bT 4 (bCons (nmB 2) (bCons (nmB 3) (bCons (nmB 4) (bCons (nmB 5) bNil))))))
  (ifS (andB (bE (op2 (eqD true) (vE 2) (vE 3))) (orB (bE (inP true (tupE (consL (vE 2) (consL (vE 3) nilL))) (.fd 0 "Reach" "own_most"))) (bE (op2 gtI (vE 4) (subP (.fd 0 "Reach" "own_most") (tupE (consL (vE 2) (consL (vE 3) nilL))))))))
  (asG (tupE (consL (vE 4) (consL (vE 1) nilL))) (bT 2 (bCons (stB (.fd 0 "Reach" "own_most") (tupE (consL (vE 2) (consL (vE 3) nilL)))) (bCons (stB (.fd 0 "Reach" "own_first") (tupE (consL (vE 2) (consL (vE 3) nilL)))) bNil))))
  skipS))
theorem go_init1 {S : List Sp} {C : List Str} {r : D} {g : GM} {f : FM} {mo fi : MoL} {n : Nat} (hn : n ≤ 9000) (gs : GS S C g f mo fi n) (s : Sp) (l1 : PyData.canLay0 (.str s.1) = true) (l2 : PyData.canLay0 (.str s.2.1) = true) {x2 x3 x4 x5 x6 : W} (u2 : UW x2) (u3 : UW x3) (u4 : UW x4) (u5 : UW x5) :
    ∃ mo' fi', GS S C (inG g s) (inF g f s) mo' fi' (n + 1) ∧ goI (goS S C r mo fi (W.w false (.sh (spD s))) x2 x3 x4 x5 x6) = some (.nx (goS S C r mo' fi' (W.w false (.sh (spD s))) (W.w false (.sh (.str s.1))) (W.w false (.sh (.str s.2.1))) (W.w false (.sh (.int s.2.2.1))) (W.w false (.sh s.2.2.2)) x6)) := by
  have k3 := gs.hg s.1 s.2.1
  have g1 := gs.l1
  have g2 := gs.l2
  have hl1 : mo.length ≤ 100000 := by omega
  have hl2 : fi.length ≤ 100000 := by omega
  unfold inG inF
  by_cases e : s.1 = s.2.1
  · have q : ¬ (s.1 ≠ s.2.1 ∧ more? (some s.2.2.1) (g s.1 s.2.1) = true) := fun z => z.1 e
    rw [if_neg q, if_neg q]
    refine ⟨mo, fi, ⟨gs.hg, gs.hf, by omega, by omega⟩, ?_⟩
    have e1 : eqD true (.str s.1) (.str s.2.1) = some (.bl false) := by rw [e]; exact neS_self l2
    simp [goI, goS, spD, u2, u3, u4, u5, e1]
  · have e1 : eqD true (.str s.1) (.str s.2.1) = some (.bl true) := neS_ne l1 l2 e
    cases hm : more? (some s.2.2.1) (g s.1 s.2.1) with
    | true =>
      rw [if_pos ⟨e, rfl⟩, if_pos ⟨e, rfl⟩]
      refine ⟨_, _, ⟨gs.hg.put _ _ _, gs.hf.put _ _ s, Nat.le_trans kput_len (by omega), Nat.le_trans kput_len (by omega)⟩, ?_⟩
      cases e3 : g s.1 s.2.1 with
      | none =>
        rw [e3] at k3
        simp [goI, goS, spD, u2, u3, u4, u5, e1, small, inO_ot, subO_ot, putO_ot hl1, putO_ot hl2, k3]
      | some w =>
        rw [e3] at k3 hm
        have hw : w < s.2.2.1 := of_decide_eq_true hm
        simp [goI, goS, spD, u2, u3, u4, u5, e1, small, inO_ot, subO_ot, putO_ot hl1, putO_ot hl2, k3, hw]
    | false =>
      rw [if_neg (by simp), if_neg (by simp)]
      refine ⟨mo, fi, ⟨gs.hg, gs.hf, by omega, by omega⟩, ?_⟩
      cases e3 : g s.1 s.2.1 with
      | none => rw [e3] at hm; cases hm
      | some w =>
        rw [e3] at k3 hm
        have hw : ¬ w < s.2.2.1 := of_decide_eq_false hm
        simp [goI, goS, spD, u2, u3, u4, u5, e1, small, inO_ot, subO_ot, putO_ot hl1, putO_ot hl2, k3, hw]
theorem go_init {S : List Sp} {C : List Str} {r : D} (ok : GOk S C) {g : GM} {f : FM} {mo fi : MoL} {n : Nat} (hn : n ≤ 800) (ii : II S C [] g f) (gs : GS S C g f mo fi n) (x6 : W) :
    ∃ g' f' mo' fi' x1 x2 x3 x4 x5, II S C S g' f' ∧ GS S C g' f' mo' fi' (n + 96) ∧ forS (itE seqS' (pE (.fd 0 "Reach" "own_steps"))) (bN 1) goI (goS S C r mo fi W.un W.un W.un W.un W.un x6) = some (.nx (goS S C r mo' fi' x1 x2 x3 x4 x5 x6)) := by
  obtain ⟨ρ, e, g', f', mo', fi', x1, x2, x3, x4, x5, u2, u3, u4, u5, i1, i2, rfl⟩ := forR_rel0 (l := S) (enc := spD) (b := bN 1) (body := goI) (ρ := goS S C r mo fi W.un W.un W.un W.un W.un x6)
    (fun a ρ => ∃ g' f' mo' fi' x1 x2 x3 x4 x5, UW x2 ∧ UW x3 ∧ UW x4 ∧ UW x5 ∧ II S C a g' f' ∧ GS S C g' f' mo' fi' (n + a.length) ∧ ρ = goS S C r mo' fi' x1 x2 x3 x4 x5 x6)
    (fun a s c ρ e ⟨g', f', mo', fi', x1, x2, x3, x4, x5, u2, u3, u4, u5, i1, i2, er⟩ => by
      subst er
      have hs : s ∈ S := by rw [e]; simp
      have hl : a.length + 1 ≤ S.length := by rw [e]; simp
      have := ok.sl
      obtain ⟨m1, m2⟩ := ok.mem s hs
      obtain ⟨mo2, fi2, j1, j2⟩ := go_init1 (S := S) (C := C) (r := r) (by omega) i2 s (ok.lay _ m1) (ok.lay _ m2) (x6 := x6) u2 u3 u4 u5
      exact ⟨_, _, rfl, j2, _, _, mo2, fi2, _, _, _, _, _, uw_w _, uw_w _, uw_w _, uw_w _, i1.step hs m1 m2, ⟨j1.hg, j1.hf, by have := j1.l1; rw [List.length_append, List.length_singleton]; omega, by have := j1.l2; rw [List.length_append, List.length_singleton]; omega⟩, rfl⟩)
    ⟨g, f, mo, fi, W.un, W.un, W.un, W.un, W.un, uw_un, uw_un, uw_un, uw_un, ii, gs, rfl⟩
  have := ok.sl
  refine ⟨g', f', mo', fi', x1, x2, x3, x4, x5, i1, ⟨i2.hg, i2.hf, by have := i2.l1; omega, by have := i2.l2; omega⟩, ?_⟩
  have e0 : itE seqS' (pE (.fd 0 "Reach" "own_steps")) (goS S C r mo fi W.un W.un W.un W.un W.un x6) = some (S.map spD, goS S C r mo fi W.un W.un W.un W.un W.un x6) := by simp [goS, seqS', seqD]
  rw [ev_for, e0]
  exact e
end Mi
/-! text S29 -/
set_option linter.all false
set_option maxRecDepth 100000
set_option maxHeartbeats 1000000
namespace Mi
open PySem L2 Dl TL
theorem p_go {S : List Sp} {C : List Str} {r : D} (ok : GOk S C) (pot : ∃ p, Pot' S p) {g : GM} {f : FM} {mo fi : MoL} {n : Nat} (hn : n ≤ 800) (ii : II S C [] g f) (gs : GS S C g f mo fi n) :
    ∃ g' f' R' mo' fi', FW S C C C.length g' f' R' ∧ MRep g' mo' ∧ FRep f' fi' ∧ m_Reach_go (.ob "Reach" (rgL S C r mo fi)) [] = some (.sh .non, .ob "Reach" (rgL S C r mo' fi')) := by
  obtain ⟨g1, f1, mo1, fi1, x1, x2, x3, x4, x5, i1, i2, e1⟩ := go_init (r := r) ok hn ii gs W.un
  obtain ⟨g2, f2, R2, mo2, fi2, ρ2, j1, j2, j3, e2, j4⟩ := go_laps (r := r) ok.cu ok.cl pot (by omega) i1.fw i2 x1 x2 x3 x4 x5 W.un
  refine ⟨g2, f2, R2, mo2, fi2, j1, j2, j3, ?_⟩
  unfold m_Reach_go fnR g_Reach_go
  simp only [List.map_cons, List.map_nil, List.cons_append, List.nil_append, show (7 - 1 : Nat) = 6 from rfl, show List.replicate 6 W.un = [W.un, W.un, W.un, W.un, W.un, W.un] from rfl]
  rw [seq_of e1, e2]
  simp [j4]
theorem chain_sum {S : List Sp} {p : Str → Int} (hp : Pot' S p) : ∀ (r : List Sp), (∀ s ∈ r, s ∈ S) → (∀ i s t, r[i]? = some s → r[i + 1]? = some t → s.1 = t.2.1) → ∀ s t, r.head? = some s → r.getLast? = some t → p t.1 + bySum r ≤ p s.2.1
  | [], _, _, s, t, h, _ => by cases h
  | [x], m, _, s, t, h1, h2 => by
    simp at h1 h2
    subst h1; subst h2
    have := hp x (m x List.mem_cons_self)
    simp [bySum]; omega
  | x :: y :: r, m, lk, s, t, h1, h2 => by
    simp at h1
    subst h1
    have ih := chain_sum hp (y :: r) (fun s hs => m s (List.mem_cons_of_mem _ hs)) (fun i s t a b => lk (i + 1) s t (by simpa using a) (by simpa using b)) y t rfl (by simpa using h2)
    have := hp x (m x List.mem_cons_self)
    have e := lk 0 x y rfl rfl
    have es : bySum (x :: y :: r) = x.2.2.1 + bySum (y :: r) := by simp [bySum]
    rw [es]
    rw [e] at this
    omega
theorem Ring.no {S r : List Sp} (h : Ring S r) : ¬ ∃ p, Pot' S p := fun ⟨p, hp⟩ => by
  cases hr : r with
  | nil => exact h.ne hr
  | cons x q =>
    have h1 : r.head? = some x := by rw [hr]; rfl
    obtain ⟨t, ht⟩ : ∃ t, r.getLast? = some t := by rw [hr]; exact ⟨_, List.getLast?_eq_some_getLast (by simp)⟩
    have := chain_sum hp r h.mem h.link x t h1 ht
    rw [h.close x t h1 ht] at this
    have := h.sum
    omega
/-! ### the log's own -/
theorem dot_lay : PyData.canLay0 (.str ("." : Str)) = true := by decide +kernel
theorem Lg.Ok.clock {L : Lg} (h : L.Ok) {c : Str} (hc : c ∈ clocksL L) : PyData.canLay0 (.str c) = true := by
  rcases List.mem_cons.mp hc with e | e
  · rw [e]; exact dot_lay
  · exact (h.tnm e).lay
theorem mem_town {t : Tw} {L : Lg} (h : t ∈ L.tw) : t.1 ∈ clocksL L := List.mem_cons_of_mem _ (List.mem_map_of_mem h)
theorem dot_clock (L : Lg) : ("." : Str) ∈ clocksL L := List.mem_cons_self
theorem mem_steps {L : Lg} {s : Sp} : s ∈ stepsL L ↔ (∃ t ∈ L.tw, s ∈ townSp t) ∨ ∃ l ∈ L.lt, s ∈ letSp L l := by
  unfold stepsL
  rw [List.mem_append, List.mem_flatMap, List.mem_flatMap]
theorem Lg.Ok.gok {L : Lg} (h : L.Ok) : GOk (stepsL L) (clocksL L) where
  c1 := by unfold clocksL; simp
  cl := by have := h.t8; unfold clocksL Lg.tn; rw [List.length_cons, List.length_map]; omega
  sl := steps_len h
  cu := List.nodup_cons.mpr ⟨fun z => (h.tnm z).dot rfl, h.tu⟩
  mem := fun s hs => by
    rcases mem_steps.mp hs with ⟨t, ht, q⟩ | ⟨l, hl, q⟩
    · simp only [townSp, List.mem_cons, List.not_mem_nil, or_false] at q
      rcases q with rfl | rfl
      · exact ⟨dot_clock L, mem_town ht⟩
      · exact ⟨mem_town ht, dot_clock L⟩
    · obtain ⟨k0, k1, k2, _⟩ := h.lok l hl
      have a1 : L.at l.1 ∈ clocksL L := List.mem_cons_of_mem _ (h.at_mem k1)
      have a2 : L.at l.2.1 ∈ clocksL L := List.mem_cons_of_mem _ (h.at_mem k2)
      unfold letSp at q
      rcases List.mem_cons.mp q with rfl | q
      · exact ⟨a2, a1⟩
      · split at q
        · cases q
        · simp only [List.mem_cons, List.not_mem_nil, or_false] at q
          subst q
          exact ⟨a1, a2⟩
  lay := fun c hc => h.clock hc
  nam := fun s hs => by
    rcases mem_steps.mp hs with ⟨t, ht, q⟩ | ⟨l, hl, q⟩
    · have q1 : PyData.canLay0 (.str t.1) = true := h.clock (mem_town ht)
      have k1 : PyData.canLay0 (.str ("low" : Str)) = true := by decide +kernel
      have k2 : PyData.canLay0 (.str ("high" : Str)) = true := by decide +kernel
      simp only [townSp, List.mem_cons, List.not_mem_nil, or_false] at q
      rcases q with rfl | rfl <;> simp [okD, okDs, q1, k1, k2]
    · obtain ⟨k0, k1, k2, _⟩ := h.lok l hl
      have a1 := (h.dnm k1).lay
      have a2 := (h.dnm k2).lay
      have k3 : PyData.canLay0 (.str ("least" : Str)) = true := by decide +kernel
      have k4 : PyData.canLay0 (.str ("most" : Str)) = true := by decide +kernel
      unfold letSp at q
      rcases List.mem_cons.mp q with rfl | q
      · simp [okD, okDs, a1, a2, k3]
      · split at q
        · cases q
        · simp only [List.mem_cons, List.not_mem_nil, or_false] at q
          subst q
          simp [okD, okDs, a1, a2, k4]
def g0F (C : List Str) : GM := fun a b => if a = b ∧ a ∈ C then some 0 else none
theorem mo0_rep (C : List Str) : MRep (g0F C) (C.map fun c => (([.inr c, .inr c] : List Key), D.int 0)) := fun a b => by
  unfold g0F
  induction C with
  | nil => simp [kget]
  | cons c C ih =>
    rw [List.map_cons]
    unfold kget
    by_cases e : a = c ∧ b = c
    · rw [if_pos (key2.mpr e), if_pos ⟨e.1.trans e.2.symm, e.1 ▸ List.mem_cons_self⟩]; rfl
    · rw [if_neg (fun z => e (key2.mp z)), ih]
      congr 1
      by_cases q : a = b
      · subst q
        have : ¬ a = c := fun z => e ⟨z, z⟩
        simp [this]
      · simp [q]
theorem ii0 {S : List Sp} {C : List Str} : II S C [] (g0F C) (fun _ _ => none) where
  z := fun a ha => if_pos ⟨rfl, ha⟩
  dom := fun a b w hw => by
    unfold g0F at hw
    split at hw
    · rename_i q; exact ⟨q.2, q.1 ▸ q.2⟩
    · cases hw
  d := fun s hs => by cases hs
  fs := fun a b ne w hw => by
    unfold g0F at hw
    rw [if_neg (fun q => ne q.1)] at hw
    cases hw
theorem kputs_new2 : ∀ (C : List Str) (acc : MoL), C.Nodup → (∀ c ∈ C, ([.inr c, .inr c] : List Key) ∉ acc.map (·.1)) → kputs acc (C.map fun c => (([.inr c, .inr c] : List Key), D.int 0)) = acc ++ C.map fun c => (([.inr c, .inr c] : List Key), D.int 0)
  | [], acc, _, _ => by simp [kputs]
  | c :: C, acc, nd, h => by
    have h1 := kput_new (d := D.int 0) (h c List.mem_cons_self)
    obtain ⟨n1, n2⟩ := List.nodup_cons.mp nd
    show kputs (kput acc ([.inr c, .inr c] : List Key) (D.int 0)) (C.map fun c => (([.inr c, .inr c] : List Key), D.int 0)) = _
    rw [h1, kputs_new2 C _ n2 fun x hx => by
      rw [List.map_append, List.mem_append]
      rintro (z | z)
      · exact h x (List.mem_cons_of_mem _ hx) z
      · have : ([.inr x, .inr x] : List Key) = [.inr c, .inr c] := by simpa using z
        exact n1 ((key2.mp this).1 ▸ hx)]
    simp
theorem pairT_of (C : List Str) : pairT (C.map fun c => D.tup [.tup [.str c, .str c], .int 0]) = some (C.map fun c => (([.inr c, .inr c] : List Key), D.int 0)) := by
  induction C with
  | nil => rfl
  | cons c C ih =>
    show (pairT (C.map fun c => D.tup [.tup [.str c, .str c], .int 0])).map (fun r => (([.inr c, .inr c] : List Key), D.int 0) :: r) = _
    rw [ih]; rfl
end Mi
/-! text S30 -/
set_option linter.all false
set_option maxRecDepth 100000
set_option maxHeartbeats 1000000
namespace Mi
open PySem L2 Dl TL
def Fits (L : Lg) : Prop := ∃ p, Pot' (stepsL L) p
/-- what a Reach that found no ring holds -/
def RFit (L : Lg) (mo fi : MoL) : Prop := ∃ g f R, FW (stepsL L) (clocksL L) (clocksL L) (clocksL L).length g f R ∧ MRep g mo ∧ FRep f fi
theorem p_Reach0 {L : Lg} (h : L.Ok) : (Fits L ∧ ∃ mo fi, RFit L mo fi ∧ m_Reach__init_ (.ob "Reach" []) [logD L] = some (.sh .non, .ob "Reach" (rgL (stepsL L) (clocksL L) .non mo fi))) ∨
    ∃ r mo fi, Ring (stepsL L) r ∧ m_Reach__init_ (.ob "Reach" []) [logD L] = some (.sh .non, .ob "Reach" (rgL (stepsL L) (clocksL L) (.tup (r.reverse.map (·.2.2.2))) mo fi)) := by
  have e1 := p_steps_of h
  have e2 := p_clocks_of h
  have ok := h.gok
  have sl := ok.sl
  have cl := ok.cl
  generalize hS : stepsL L = S at *
  generalize hC : clocksL L = C at *
  have n0 : fget "found_ring" [(("own_steps" : Str), O.sh (.lst (S.map spD))), ("own_clocks", .sh (.lst (strsL C)))] = none := by
    have h1 : ("own_steps" : Str) ≠ "found_ring" := by decide +kernel
    have h2 : ("own_clocks" : Str) ≠ "found_ring" := by decide +kernel
    simp [fget, h1, h2]
  have s1 : setF 0 "Reach" "own_steps" (shE (frE (callP 1 m_steps_of (consL (vE 1) nilL)))) [W.w true (.ob "Reach" []), W.w false (.sh (logD L)), W.un] = some (.nx [W.w true (.ob "Reach" [("own_steps", .sh (.lst (S.map spD)))]), W.w false (.sh (logD L)), W.un]) := by
    simp [e1, fput]
  have s2 : setF 0 "Reach" "own_clocks" (shE (frE (callP 1 m_clocks_of (consL (vE 1) nilL)))) [W.w true (.ob "Reach" [("own_steps", .sh (.lst (S.map spD)))]), W.w false (.sh (logD L)), W.un] = some (.nx [W.w true (rchO S C), W.w false (.sh (logD L)), W.un]) := by
    simp [e2, fput, n_rch, rchO]
  have s3 : ∀ d, m_Reach_found_ring (rchO S C) [] = some (.sh d, rchO S C) → setF 0 "Reach" "own_ring" (shE (frE (methR "Reach" "found_ring" 1 m_Reach_found_ring 0 nilL))) [W.w true (rchO S C), W.w false (.sh (logD L)), W.un] = some (.nx [W.w true (.ob "Reach" [("own_steps", .sh (.lst (S.map spD))), ("own_clocks", .sh (.lst (strsL C))), ("own_ring", .sh d)]), W.w false (.sh (logD L)), W.un]) := by
    intro d hd
    unfold rchO at hd ⊢
    simp [hd, n0, fput, n_rch]
  have s4 : ∀ d, setF 0 "Reach" "own_most" (callB dictTO (consL (frE (lcE [2] (itE seqS' (pE (.fd 0 "Reach" "own_clocks"))) (bN 2) yesB (tupE (consL (tupE (consL (vE 2) (consL (vE 2) nilL))) (consL (cE (.int 0)) nilL))))) nilL)) [W.w true (.ob "Reach" [("own_steps", .sh (.lst (S.map spD))), ("own_clocks", .sh (.lst (strsL C))), ("own_ring", .sh d)]), W.w false (.sh (logD L)), W.un] =
      some (.nx [W.w true (.ob "Reach" [("own_steps", .sh (.lst (S.map spD))), ("own_clocks", .sh (.lst (strsL C))), ("own_ring", .sh d), ("own_most", .ot (C.map fun c => (([.inr c, .inr c] : List Key), D.int 0)))]), W.w false (.sh (logD L)), W.un]) := by
    intro d
    have q : fget "own_clocks" [(("own_steps" : Str), O.sh (.lst (S.map spD))), ("own_clocks", .sh (.lst (strsL C))), ("own_ring", .sh d)] = some (.sh (.lst (strsL C))) := by simp [fget, n_rch]
    have e : lcE [2] (itE seqS' (pE (.fd 0 "Reach" "own_clocks"))) (bN 2) yesB (tupE (consL (tupE (consL (vE 2) (consL (vE 2) nilL))) (consL (cE (.int 0)) nilL))) [W.w true (.ob "Reach" [("own_steps", .sh (.lst (S.map spD))), ("own_clocks", .sh (.lst (strsL C))), ("own_ring", .sh d)]), W.w false (.sh (logD L)), W.un] =
        some (.ol (C.map fun c => .tup [.tup [.str c, .str c], .int 0]), [W.w true (.ob "Reach" [("own_steps", .sh (.lst (S.map spD))), ("own_clocks", .sh (.lst (strsL C))), ("own_ring", .sh d)]), W.w false (.sh (logD L)), W.un]) := by
      refine lcE_map (xs := C) (enc := D.str) (F := fun c => .tup [.tup [.str c, .str c], .int 0]) (ρ1 := [W.w true (.ob "Reach" [("own_steps", .sh (.lst (S.map spD))), ("own_clocks", .sh (.lst (strsL C))), ("own_ring", .sh d)]), W.w false (.sh (logD L)), W.un]) ?_ (decide_eq_true (by omega)) fun c hc => ?_
      · have : itE seqS' (pE (.fd 0 "Reach" "own_clocks")) [W.w true (.ob "Reach" [("own_steps", .sh (.lst (S.map spD))), ("own_clocks", .sh (.lst (strsL C))), ("own_ring", .sh d)]), W.w false (.sh (logD L)), W.un] = some (strsL C, [W.w true (.ob "Reach" [("own_steps", .sh (.lst (S.map spD))), ("own_clocks", .sh (.lst (strsL C))), ("own_ring", .sh d)]), W.w false (.sh (logD L)), W.un]) := by simp [q, seqS', seqD]
        exact this
      · exact ⟨[W.w true (.ob "Reach" [("own_steps", .sh (.lst (S.map spD))), ("own_clocks", .sh (.lst (strsL C))), ("own_ring", .sh d)]), W.w false (.sh (logD L)), W.w false (.sh (.str c))], [W.w true (.ob "Reach" [("own_steps", .sh (.lst (S.map spD))), ("own_clocks", .sh (.lst (strsL C))), ("own_ring", .sh d)]), W.w false (.sh (logD L)), W.w false (.sh (.str c))], rfl, by simp [small], rfl⟩
    have e2 : dictTO [.lst (C.map fun c => .tup [.tup [.str c, .str c], .int 0])] = some (.ot (C.map fun c => (([.inr c, .inr c] : List Key), D.int 0))) := by
      show (pairT (C.map fun c => D.tup [.tup [.str c, .str c], .int 0])).map (fun m => O.ot (kputs [] m)) = _
      rw [pairT_of]
      show some (O.ot (kputs [] (C.map fun c => (([.inr c, .inr c] : List Key), D.int 0)))) = _
      rw [kputs_new2 C [] ok.cu (by simp)]
      rfl
    simp [e, e2, fput, n_rch]
  have s5 : ∀ d, setF 0 "Reach" "own_first" (fun ρ => some (.ot [], ρ)) [W.w true (.ob "Reach" [("own_steps", .sh (.lst (S.map spD))), ("own_clocks", .sh (.lst (strsL C))), ("own_ring", .sh d), ("own_most", .ot (C.map fun c => (([.inr c, .inr c] : List Key), D.int 0)))]), W.w false (.sh (logD L)), W.un] =
      some (.nx [W.w true (.ob "Reach" (rgL S C d (C.map fun c => (([.inr c, .inr c] : List Key), D.int 0)) [])), W.w false (.sh (logD L)), W.un]) := by
    intro d
    simp [fput, n_rch, rgL]
  have ng : ∀ d mo fi, fget "go" (rgL S C d mo fi) = none := fun d mo fi => rg_no (by decide +kernel)
  unfold m_Reach__init_ fnR g_Reach__init_
  simp only [List.map_cons, List.map_nil, List.cons_append, List.nil_append, show (3 - 2 : Nat) = 1 from rfl, show List.replicate 1 W.un = [W.un] from rfl]
  rw [seq_of s1, seq_of s2]
  rcases p_found_ring ok with ⟨k1, k2⟩ | ⟨r, k1, k2⟩
  · left
    refine ⟨by unfold Fits; rw [hS]; exact k2, ?_⟩
    obtain ⟨g, f, R, mo, fi, j1, j2, j3, j4⟩ := p_go (r := .non) (mo := C.map fun c => (([.inr c, .inr c] : List Key), D.int 0)) (fi := []) (f := fun _ _ => none) ok k2 (n := 10) (by decide) ii0 ⟨mo0_rep C, fun a b => rfl, by rw [List.length_map]; omega, by simp⟩
    refine ⟨mo, fi, ⟨g, f, R, by rw [hS, hC]; exact j1, j2, j3⟩, ?_⟩
    rw [seq_of (s3 _ k1), seq_of (s4 _), seq_of (s5 _)]
    simp [isD, Dl.isNon, ng, j4]
  · right
    refine ⟨r, C.map fun c => (([.inr c, .inr c] : List Key), D.int 0), [], k1, ?_⟩
    rw [seq_of (s3 _ k2), seq_of (s4 _), seq_of (s5 _)]
    simp [isD, Dl.isNon]
/-- the Reach of a log, as data -/
def rgD (S : List Sp) (C : List Str) (r : D) (mo fi : MoL) : List (Str × D) := [("own_steps", .lst (S.map spD)), ("own_clocks", .lst (strsL C)), ("own_ring", r), ("own_most", .dt mo), ("own_first", .dt fi)]
theorem rg_frz (S : List Sp) (C : List Str) (r : D) (mo fi : MoL) : (O.ob "Reach" (rgL S C r mo fi)).frz = .obj "Reach" (rgD S C r mo fi) := by
  unfold rgL rgD
  simp [O.frz, O.frzL]
section
variable {S : List Sp} {C : List Str} {r : D} {mo fi : MoL}
@[simp] theorem rd_steps : fget "own_steps" (rgD S C r mo fi) = some (.lst (S.map spD)) := by simp [rgD, fget]
@[simp] theorem rd_clocks : fget "own_clocks" (rgD S C r mo fi) = some (.lst (strsL C)) := by simp [rgD, fget, n_rch]
@[simp] theorem rd_ring : fget "own_ring" (rgD S C r mo fi) = some r := by simp [rgD, fget, n_rch]
@[simp] theorem rd_most : fget "own_most" (rgD S C r mo fi) = some (.dt mo) := by simp [rgD, fget, n_rch]
@[simp] theorem rd_first : fget "own_first" (rgD S C r mo fi) = some (.dt fi) := by simp [rgD, fget, n_rch]
theorem rd_no {m : Str} (h : decide (("own_steps" : Str) ≠ m ∧ ("own_clocks" : Str) ≠ m ∧ ("own_ring" : Str) ≠ m ∧ ("own_most" : Str) ≠ m ∧ ("own_first" : Str) ≠ m) = true) : fget m (rgD S C r mo fi) = none := by
  obtain ⟨h1, h2, h3, h4, h5⟩ := of_decide_eq_true h
  simp [rgD, fget, h1, h2, h3, h4, h5]
@[simp] theorem rd_mring : fget "ring" (rgD S C r mo fi) = none := rd_no (by decide +kernel)
@[simp] theorem rd_mmost : fget "most" (rgD S C r mo fi) = none := rd_no (by decide +kernel)
@[simp] theorem rd_mcourse : fget "course" (rgD S C r mo fi) = none := rd_no (by decide +kernel)
@[simp] theorem rd_mchain : fget "chain" (rgD S C r mo fi) = none := rd_no (by decide +kernel)
end
end Mi
/-! text S31 -/
set_option linter.all false
set_option maxRecDepth 100000
set_option maxHeartbeats 1000000
namespace Mi
open PySem L2 Dl TL
/-! ### Reach(log), told once -/
theorem fit_ex {L : Lg} (h : L.Ok) (hf : Fits L) : ∃ mf : MoL × MoL, RFit L mf.1 mf.2 ∧ m_Reach__init_ (.ob "Reach" []) [logD L] = some (.sh .non, .ob "Reach" (rgL (stepsL L) (clocksL L) .non mf.1 mf.2)) := by
  rcases p_Reach0 h with ⟨_, mo, fi, h1, h2⟩ | ⟨r, mo, fi, h1, _⟩
  · exact ⟨(mo, fi), h1, h2⟩
  · exact absurd hf h1.no
open Classical in
noncomputable def Lg.mf (L : Lg) : MoL × MoL := if h : L.Ok ∧ Fits L then Classical.choose (fit_ex h.1 h.2) else ([], [])
theorem Lg.mf_ok {L : Lg} (h : L.Ok) (hf : Fits L) : RFit L L.mf.1 L.mf.2 ∧ m_Reach__init_ (.ob "Reach" []) [logD L] = some (.sh .non, .ob "Reach" (rgL (stepsL L) (clocksL L) .non L.mf.1 L.mf.2)) := by
  unfold Lg.mf
  rw [dif_pos ⟨h, hf⟩]
  exact Classical.choose_spec (fit_ex h hf)
noncomputable abbrev rchD (L : Lg) : D := .obj "Reach" (rgD (stepsL L) (clocksL L) .non L.mf.1 L.mf.2)
/-- by how much a clock is ahead of another one at least -/
noncomputable def Lg.G (L : Lg) (a b : Str) : Int := match kget ([.inr a, .inr b] : List Key) L.mf.1 with
  | some (.int i) => i
  | _ => 0
theorem hub_l {L : Lg} (h : L.Ok) {a : Str} (ha : a ∈ clocksL L) : a = "." ∨ ((∃ s ∈ stepsL L, s.1 = "." ∧ s.2.1 = a) ∧ ∃ s ∈ stepsL L, s.1 = a ∧ s.2.1 = ".") := by
  rcases List.mem_cons.mp ha with e | e
  · exact .inl e
  · obtain ⟨t, ht, rfl⟩ := List.mem_map.mp e
    exact .inr ⟨⟨_, mem_steps.mpr (.inl ⟨t, ht, List.mem_cons_self⟩), rfl, rfl⟩, ⟨_, mem_steps.mpr (.inl ⟨t, ht, List.mem_cons_of_mem _ List.mem_cons_self⟩), rfl, rfl⟩⟩
theorem dot_ne {L : Lg} (h : L.Ok) {a : Str} (ha : a ∈ L.tn) : a ≠ "." := (h.tnm ha).dot
theorem FW.total {L : Lg} (h : L.Ok) {g : GM} {f : FM} {R : Str → Str → Nat} {k : Nat} (fw : FW (stepsL L) (clocksL L) (clocksL L) k g f R) {a b : Str} (ha : a ∈ clocksL L) (hb : b ∈ clocksL L) : ∃ w, g a b = some w := by
  have to : ∀ a ∈ clocksL L, ∃ w, g a "." = some w := fun a ha => by
    rcases hub_l h ha with e | ⟨_, s, hs, e1, e2⟩
    · rw [e]; exact ⟨0, fw.z _ (dot_clock L)⟩
    · by_cases e : a = "."
      · rw [e]; exact ⟨0, fw.z _ (dot_clock L)⟩
      · obtain ⟨w, h1, _⟩ := fw.d s hs (by rw [e1, e2]; exact e)
        rw [e1, e2] at h1; exact ⟨w, h1⟩
  have fr : ∀ a ∈ clocksL L, ∃ w, g "." a = some w := fun a ha => by
    rcases hub_l h ha with e | ⟨⟨s, hs, e1, e2⟩, _⟩
    · rw [e]; exact ⟨0, fw.z _ (dot_clock L)⟩
    · by_cases e : a = "."
      · rw [e]; exact ⟨0, fw.z _ (dot_clock L)⟩
      · obtain ⟨w, h1, _⟩ := fw.d s hs (by rw [e1, e2]; exact fun z => e z.symm)
        rw [e1, e2] at h1; exact ⟨w, h1⟩
  obtain ⟨x, hx⟩ := to a ha
  obtain ⟨y, hy⟩ := fr b hb
  obtain ⟨w, hw, _⟩ := fw.cl "." (dot_clock L) a b x y hx hy
  exact ⟨w, hw⟩
theorem G_get {L : Lg} (h : L.Ok) (hf : Fits L) {a b : Str} (ha : a ∈ clocksL L) (hb : b ∈ clocksL L) : kget ([.inr a, .inr b] : List Key) L.mf.1 = some (.int (L.G a b)) := by
  obtain ⟨⟨g, f, R, fw, hg, _⟩, _⟩ := L.mf_ok h hf
  obtain ⟨w, hw⟩ := fw.total h ha hb
  have := hg a b
  rw [hw] at this
  unfold Lg.G
  rw [this]; rfl
theorem G_is {L : Lg} (h : L.Ok) (hf : Fits L) {g : GM} (hg : MRep g L.mf.1) {a b : Str} {w : Int} (e : g a b = some w) : L.G a b = w := by
  have := hg a b
  rw [e] at this
  unfold Lg.G
  rw [this]; rfl
theorem G_self {L : Lg} (h : L.Ok) (hf : Fits L) {a : Str} (ha : a ∈ clocksL L) : L.G a a = 0 := by
  obtain ⟨⟨g, f, R, fw, hg, _⟩, _⟩ := L.mf_ok h hf
  exact G_is h hf hg (fw.z a ha)
/-- it is no more than in any course -/
theorem G_le {L : Lg} (h : L.Ok) {p : Str → Int} (hp : Pot' (stepsL L) p) {a b : Str} (ha : a ∈ clocksL L) (hb : b ∈ clocksL L) : L.G a b ≤ p b - p a := by
  have hf : Fits L := ⟨p, hp⟩
  obtain ⟨⟨g, f, R, fw, hg, _⟩, _⟩ := L.mf_ok h hf
  obtain ⟨w, hw⟩ := fw.total h ha hb
  rw [G_is h hf hg hw]
  exact fw.u p hp a b w hw
theorem G_tri {L : Lg} (h : L.Ok) (hf : Fits L) {a b c : Str} (ha : a ∈ clocksL L) (hb : b ∈ clocksL L) (hc : c ∈ clocksL L) : L.G a b + L.G b c ≤ L.G a c := by
  obtain ⟨⟨g, f, R, fw, hg, _⟩, _⟩ := L.mf_ok h hf
  obtain ⟨x, hx⟩ := fw.total h ha hb
  obtain ⟨y, hy⟩ := fw.total h hb hc
  obtain ⟨w, hw, hle⟩ := fw.cl b hb a c x y hx hy
  rw [G_is h hf hg hx, G_is h hf hg hy, G_is h hf hg hw]
  exact hle
theorem G_step {L : Lg} (h : L.Ok) (hf : Fits L) {s : Sp} (hs : s ∈ stepsL L) : s.2.2.1 ≤ L.G s.1 s.2.1 := by
  obtain ⟨⟨g, f, R, fw, hg, _⟩, _⟩ := L.mf_ok h hf
  obtain ⟨m1, m2⟩ := h.gok.mem s hs
  by_cases e : s.1 = s.2.1
  · obtain ⟨p, hp⟩ := hf
    have := hp s hs
    rw [← e] at this ⊢
    rw [G_self h ⟨p, hp⟩ m1]
    omega
  · obtain ⟨w, h1, h2⟩ := fw.d s hs e
    rw [G_is h hf hg h1]
    exact h2
/-- a course: all as little ahead of one as can be -/
theorem G_pot {L : Lg} (h : L.Ok) (hf : Fits L) {a : Str} (ha : a ∈ clocksL L) : Pot' (stepsL L) (fun c => L.G a c) := fun s hs => by
  obtain ⟨m1, m2⟩ := h.gok.mem s hs
  have := G_step h hf hs
  have := G_tri h hf ha m1 m2
  show L.G a s.1 + s.2.2.1 ≤ L.G a s.2.1
  omega
theorem mk_Reach {L : Lg} (h : L.Ok) (hf : Fits L) {l : LE} {ρ ρ1 : List W} (hl : l ρ = some ([logD L], ρ1)) : makeE "Reach" 2 m_Reach__init_ l ρ = some (.ob "Reach" (rgL (stepsL L) (clocksL L) .non L.mf.1 L.mf.2), ρ1) := by
  rw [ev_make, hl]
  simp [(L.mf_ok h hf).2]
theorem p_ring {S : List Sp} {C : List Str} {r : D} {mo fi : MoL} : m_Reach_ring [.obj "Reach" (rgD S C r mo fi)] = some (.sh r) := by
  unfold m_Reach_ring fnP g_Reach_ring
  simp
theorem p_most {L : Lg} (h : L.Ok) (hf : Fits L) {a b : Str} (ha : a ∈ clocksL L) (hb : b ∈ clocksL L) : m_Reach_most [rchD L, .str a, .str b] = some (.sh (.int (L.G a b))) := by
  have e := sub_dt (G_get h hf ha hb)
  unfold m_Reach_most fnP g_Reach_most
  simp [small, e]
theorem p_reach_of {L : Lg} (h : L.Ok) (hf : Fits L) : m_reach_of [logD L] = some (.sh (rchD L)) := by
  have e := mk_Reach h hf (l := consL (vE 0) nilL) (ρ := [W.w false (.sh (logD L)), W.un]) (ρ1 := [W.w false (.sh (logD L)), W.un]) (by simp)
  have s1 : asgS 1 (shE (frE (makeE "Reach" 2 m_Reach__init_ (consL (vE 0) nilL)))) [W.w false (.sh (logD L)), W.un] = some (.nx [W.w false (.sh (logD L)), W.w false (.sh (rchD L))]) := by
    rw [ev_asg, ev_sh, ev_fr, e]
    simp [rg_frz]
  unfold m_reach_of fnP g_reach_of
  simp only [List.map_cons, List.map_nil, List.cons_append, List.nil_append, show (2 - 1 : Nat) = 1 from rfl, show List.replicate 1 W.un = [W.un] from rfl]
  rw [seq_of s1]
  simp [p_ring, isD, Dl.isNon]
noncomputable def courseL (L : Lg) (a : Str) : List Int := L.tn.map fun c => L.G a c - L.G a "."
theorem cut_tail (l : List D) : cutD l (some 1) none = l.tail := cut_one l
theorem p_course {L : Lg} (h : L.Ok) (hf : Fits L) {a : Str} (ha : a ∈ clocksL L) : m_Reach_course [rchD L, .str a] = some (.sh (.tup ((courseL L a).map D.int))) := by
  have e : lcE [2] (itE seqS' (frE (slE (pE (.fd 0 "Reach" "own_clocks")) (atPa (cE (.int 1))) noPa))) (bN 2) yesB (op2 subI (frE (methP "Reach" "most" 3 m_Reach_most (vE 0) (consL (vE 1) (consL (vE 2) nilL)))) (frE (methP "Reach" "most" 3 m_Reach_most (vE 0) (consL (vE 1) (consL (cE (.str ".")) nilL))))) [W.w false (.sh (rchD L)), W.w false (.sh (.str a)), W.un] =
      some (.ol (L.tn.map fun c => .int (L.G a c - L.G a ".")), [W.w false (.sh (rchD L)), W.w false (.sh (.str a)), W.un]) := by
    refine lcE_map (xs := L.tn) (enc := D.str) (F := fun c => .int (L.G a c - L.G a ".")) (ρ1 := [W.w false (.sh (rchD L)), W.w false (.sh (.str a)), W.un]) ?_ (decide_eq_true (by have := h.t8; unfold Lg.tn; rw [List.length_map]; omega)) fun c hc => ?_
    · have : (strsL (clocksL L)).tail = L.tn.map D.str := rfl
      simp [slO, cut_tail, this, seqS', seqD]
    · have m1 := p_most h hf ha (List.mem_cons_of_mem _ hc)
      have m2 := p_most h hf ha (dot_clock L)
      exact ⟨[W.w false (.sh (rchD L)), W.w false (.sh (.str a)), W.w false (.sh (.str c))], [W.w false (.sh (rchD L)), W.w false (.sh (.str a)), W.w false (.sh (.str c))], rfl, by simp [m1, m2], rfl⟩
  unfold m_Reach_course fnP g_Reach_course
  simp [e, tupleD, courseL]
theorem p_fitting {L : Lg} (h : L.Ok) (hf : Fits L) : m_fitting [logD L] = some (.sh (.tup [.str "course", .tup ((courseL L ".").map D.int)])) := by
  have e := mk_Reach h hf (l := consL (vE 0) nilL) (ρ := [W.w false (.sh (logD L)), W.un]) (ρ1 := [W.w false (.sh (logD L)), W.un]) (by simp)
  have s1 : asgS 1 (shE (frE (makeE "Reach" 2 m_Reach__init_ (consL (vE 0) nilL)))) [W.w false (.sh (logD L)), W.un] = some (.nx [W.w false (.sh (logD L)), W.w false (.sh (rchD L))]) := by
    rw [ev_asg, ev_sh, ev_fr, e]
    simp [rg_frz]
  have s0 : dropS (frE (callP 1 m_check_log (consL (vE 0) nilL))) [W.w false (.sh (logD L)), W.un] = some (.nx [W.w false (.sh (logD L)), W.un]) := by simp [p_check_log]
  unfold m_fitting fnP g_fitting
  simp only [List.map_cons, List.map_nil, List.cons_append, List.nil_append, show (2 - 1 : Nat) = 1 from rfl, show List.replicate 1 W.un = [W.un] from rfl]
  rw [seq_of s0, seq_of s1]
  simp [p_ring, isD, Dl.isNon, p_course h hf (dot_clock L), small]
theorem p_fitting_no {L : Lg} (h : L.Ok) (hf : ¬ Fits L) : ∃ r, m_fitting [logD L] = some (.sh (.tup [.str "ring", .tup r])) := by
  rcases p_Reach0 h with ⟨q, _⟩ | ⟨r, mo, fi, h1, h2⟩
  · exact absurd q hf
  refine ⟨r.reverse.map (·.2.2.2), ?_⟩
  have e : makeE "Reach" 2 m_Reach__init_ (consL (vE 0) nilL) [W.w false (.sh (logD L)), W.un] = some (.ob "Reach" (rgL (stepsL L) (clocksL L) (.tup (r.reverse.map (·.2.2.2))) mo fi), [W.w false (.sh (logD L)), W.un]) := by
    rw [ev_make]
    simp [h2]
  have s1 : asgS 1 (shE (frE (makeE "Reach" 2 m_Reach__init_ (consL (vE 0) nilL)))) [W.w false (.sh (logD L)), W.un] = some (.nx [W.w false (.sh (logD L)), W.w false (.sh (.obj "Reach" (rgD (stepsL L) (clocksL L) (.tup (r.reverse.map (·.2.2.2))) mo fi)))]) := by
    rw [ev_asg, ev_sh, ev_fr, e]
    simp only [Option.map_some, rg_frz]
    rfl
  have s0 : dropS (frE (callP 1 m_check_log (consL (vE 0) nilL))) [W.w false (.sh (logD L)), W.un] = some (.nx [W.w false (.sh (logD L)), W.un]) := by simp [p_check_log]
  unfold m_fitting fnP g_fitting
  simp only [List.map_cons, List.map_nil, List.cons_append, List.nil_append, show (2 - 1 : Nat) = 1 from rfl, show List.replicate 1 W.un = [W.un] from rfl]
  rw [seq_of s0, seq_of s1]
  simp [p_ring, isD, Dl.isNon, small]
theorem p_span_by {L : Lg} (h : L.Ok) (hf : Fits L) {n : Str} (hn : n ∈ L.dn) : m_span_by [logD L, rchD L, .str n] = some (.sh (.tup [.int (L.sh n + L.G (L.at n) "."), .int (L.sh n - L.G "." (L.at n))])) := by
  have a1 := p_shown_at' h hn
  have a2 := p_town_at' h hn
  have hm : L.at n ∈ clocksL L := List.mem_cons_of_mem _ (h.at_mem hn)
  have m1 := p_most h hf hm (dot_clock L)
  have m2 := p_most h hf (dot_clock L) hm
  unfold m_span_by fnP g_span_by
  simp [a1, a2, m1, m2, small]
theorem p_span_of {L : Lg} (h : L.Ok) (hf : Fits L) {n : Str} (hn : n ∈ L.dn) : m_span_of [logD L, .str n] = some (.sh (.tup [.int (L.sh n + L.G (L.at n) "."), .int (L.sh n - L.G "." (L.at n))])) := by
  unfold m_span_of fnP g_span_of
  simp [p_check_deed hn, p_reach_of h hf, p_span_by h hf hn]
end Mi
/-! text S32 -/
set_option linter.all false
set_option maxRecDepth 100000
set_option maxHeartbeats 1000000
namespace Mi
open PySem L2 Dl TL
theorem all_map {X : Type} (b : X → Bool) (l : List X) : allD (.lst (l.map fun x => D.bl (b x))) = some (.bl (l.all b)) := by
  have : blsD (l.map fun x => D.bl (b x)) = some (l.map b) := by
    have := bls_of (l.map b)
    rw [List.map_map] at this
    exact this
  show (blsD (l.map fun x => D.bl (b x))).map (fun bs => D.bl (bs.all id)) = _
  rw [this]
  simp [List.all_map, Function.comp_def]
theorem find_str {n : Str} : ∀ {l : List Str}, n ∈ l → ∃ j, findK (.str n) (strsL l) = some j ∧ l[j]? = some n ∧ j < l.length
  | [], h => by cases h
  | x :: r, h => by
    have e : findK (.str n) (strsL (x :: r)) = if inSeq.eqF (.str x) (.str n) then some 0 else (findK (.str n) (strsL r)).map (· + 1) := rfl
    rw [e]
    have e2 : inSeq.eqF (.str x) (.str n) = (x == n) := rfl
    rw [e2, beq_str]
    by_cases q : x = n
    · subst q; exact ⟨0, by simp, rfl, by simp⟩
    · rcases List.mem_cons.mp h with z | z
      · exact absurd z.symm q
      · obtain ⟨j, h1, h2, h3⟩ := find_str z
        exact ⟨j + 1, by simp [q, h1], by simpa using h2, by simp; omega⟩
theorem index_str {n : Str} {l : List Str} (h : n ∈ l) : ∃ j : Nat, indexD (.lst (strsL l)) [.str n] = some (.int (j : Nat)) ∧ l[j]? = some n ∧ j < l.length := by
  obtain ⟨j, h1, h2, h3⟩ := find_str h
  refine ⟨j, ?_, h2, h3⟩
  show (if inSeq.flD (.str n) && (strsL l).all inSeq.flD then (findK (.str n) (strsL l)).map fun j => D.int (j : Nat) else none) = _
  rw [strs_fl, h1]
  rfl
def offsD (L : Lg) (off : Str → Int) : D := .tup ((L.tn.map off).map D.int)
@[simp] theorem ev_bmE {f : D → List D → Option D} {g : DE} {l : LE} {ρ : List W} : bmE f g l ρ = (match g ρ with | some (.lst d, ρ1) => (match l ρ1 with | some (ds, ρ2) => (f (.lst d) ds).map fun x => (x, ρ2) | none => none) | _ => none) := rfl
theorem p_time_by {L : Lg} (h : L.Ok) (off : Str → Int) {n : Str} (hn : n ∈ L.dn) : m_time_by [logD L, offsD L off, .str n] = some (.sh (.int (L.sh n - off (L.at n)))) := by
  have a1 := p_shown_at' h hn
  have a2 := p_town_at' h hn
  obtain ⟨j, e1, e2, e3⟩ := index_str (h.at_mem hn)
  have e4 : subD (offsD L off) (.int (j : Nat)) = some (.int (off (L.at n))) := subD_tup (atI_nat rfl (by rw [List.getElem?_map, List.getElem?_map, e2]; rfl))
  unfold m_time_by fnP g_time_by
  simp [a1, a2, p_town_names, e1, e4]
def took (L : Lg) (off : Str → Int) (l : Lt) : Int := (L.sh l.2.1 - off (L.at l.2.1)) - (L.sh l.1 - off (L.at l.1))
def letOk (L : Lg) (off : Str → Int) (l : Lt) : Bool := decide (l.2.2.1 ≤ took L off l) && (match l.2.2.2 with | none => true | some m => decide (took L off l ≤ m))
def isC (L : Lg) (off : Str → Int) : Bool := (L.tw.all fun t => decide (t.2.1 ≤ off t.1 ∧ off t.1 ≤ t.2.2)) && L.lt.all (letOk L off)
theorem zipD_map {X : Type} (f g : X → D) : ∀ l : List X, zipD (l.map f) (l.map g) = l.map fun x => .tup [f x, g x]
  | [] => rfl
  | x :: r => by
    show D.tup [f x, g x] :: zipD (r.map f) (r.map g) = _
    rw [zipD_map f g r]; rfl
@[simp] theorem ev_chF {f f' : D → D → Option D} {ga gb gc : DE} {ρ : List W} : chF f f' ga gb gc ρ = (match ga ρ with | some (x, ρ1) => (match gb ρ1 with | some (y, ρ2) => (match f x y with | some (.bl true) => (match gc ρ2 with | some (z, ρ3) => (f' y z).map fun d => (d, ρ3) | none => none) | some (.bl false) => some (.bl false, ρ2) | _ => none) | none => none) | none => none) := rfl
theorem isD_oD' (o : Option Int) : isD true (oD o) .non = some (.bl o.isSome) := by cases o <;> rfl
theorem p_is_course_of {L : Lg} (h : L.Ok) (off : Str → Int) : m_is_course_of [logD L, offsD L off] = some (.sh (.bl (isC L off))) := by
  have t8 := h.t8
  have l40 := h.l40
  have q1 : isiD (offsD L off) (.ty "tuple") = some (.bl true) := rfl
  have q2 : lenD (offsD L off) = some (.int (L.tn.length : Nat)) := by unfold offsD; rw [len_tup, List.length_map, List.length_map]
  have q3 : (strsL L.tn).length = L.tn.length := List.length_map _
  have tl8 : L.tn.length ≤ 8 := by unfold Lg.tn; rw [List.length_map]; exact t8
  have c2 : seqD (offsD L off) = some ((L.tn.map off).map D.int) := rfl
  have c2' : seqS' (offsD L off) = some ((L.tn.map off).map D.int) := rfl
  have e1 : lcE [2] (itE seqS' (vE 1)) (bN 2) yesB (frE (callP 1 m_is_integer (consL (vE 2) nilL))) [W.w false (.sh (logD L)), W.w false (.sh (offsD L off)), W.un, W.un, W.un, W.un, W.un, W.un, W.un, W.un, W.un] =
      some (.ol ((L.tn.map off).map fun _ => .bl true), [W.w false (.sh (logD L)), W.w false (.sh (offsD L off)), W.un, W.un, W.un, W.un, W.un, W.un, W.un, W.un, W.un]) := by
    refine lcE_map (xs := L.tn.map off) (enc := D.int) (F := fun _ => .bl true) (by simp [c2']) (decide_eq_true (by rw [List.length_map]; omega)) fun i _ => ?_
    exact ⟨[W.w false (.sh (logD L)), W.w false (.sh (offsD L off)), W.w false (.sh (.int i)), W.un, W.un, W.un, W.un, W.un, W.un, W.un, W.un], [W.w false (.sh (logD L)), W.w false (.sh (offsD L off)), W.w false (.sh (.int i)), W.un, W.un, W.un, W.un, W.un, W.un, W.un, W.un], rfl, by simp [p_is_integer], rfl⟩
  have e2 : lcE [2, 3, 4, 5] (itL zip2D (consL (vE 1) (consL (frE (propE "Log" m_Log_towns (vE 0))) nilL))) (bT 2 (bCons (bN 2) (bCons (bT 3 (bCons (bN 3) (bCons (bN 4) (bCons (bN 5) bNil)))) bNil))) yesB (chF leI leI (vE 4) (vE 2) (vE 5)) [W.w false (.sh (logD L)), W.w false (.sh (offsD L off)), W.un, W.un, W.un, W.un, W.un, W.un, W.un, W.un, W.un] =
      some (.ol (L.tw.map fun t => .bl (decide (t.2.1 ≤ off t.1 ∧ off t.1 ≤ t.2.2))), [W.w false (.sh (logD L)), W.w false (.sh (offsD L off)), W.un, W.un, W.un, W.un, W.un, W.un, W.un, W.un, W.un]) := by
    have ez : zip2D [offsD L off, .tup (L.tw.map townD)] = some (L.tw.map fun t => .tup [.int (off t.1), townD t]) := by
      show some (zipD ((L.tn.map off).map D.int) (L.tw.map townD)) = _
      unfold Lg.tn
      rw [List.map_map, List.map_map, zipD_map]
      rfl
    refine lcE_map (xs := L.tw) (enc := fun t => .tup [.int (off t.1), townD t]) (F := fun t => .bl (decide (t.2.1 ≤ off t.1 ∧ off t.1 ≤ t.2.2))) (by simp [p_towns h, ez]) (decide_eq_true (by omega)) fun t ht => ?_
    refine ⟨[W.w false (.sh (logD L)), W.w false (.sh (offsD L off)), W.w false (.sh (.int (off t.1))), W.w false (.sh (.str t.1)), W.w false (.sh (.int t.2.1)), W.w false (.sh (.int t.2.2)), W.un, W.un, W.un, W.un, W.un], [W.w false (.sh (logD L)), W.w false (.sh (offsD L off)), W.w false (.sh (.int (off t.1))), W.w false (.sh (.str t.1)), W.w false (.sh (.int t.2.1)), W.w false (.sh (.int t.2.2)), W.un, W.un, W.un, W.un, W.un], rfl, ?_, rfl⟩
    by_cases k1 : t.2.1 ≤ off t.1
    · simp [k1]
    · simp [k1]
  have a1 : allD (.lst ((L.tn.map off).map fun _ => D.bl true)) = some (.bl true) := all_true _
  have a2 := all_map (fun t : Tw => decide (t.2.1 ≤ off t.1 ∧ off t.1 ≤ t.2.2)) L.tw
  unfold m_is_course_of fnP g_is_course_of
  simp only [List.map_cons, List.map_nil, List.cons_append, List.nil_append, show (11 - 2 : Nat) = 9 from rfl, show List.replicate 9 W.un = [W.un, W.un, W.un, W.un, W.un, W.un, W.un, W.un, W.un] from rfl]
  have s1 : ∀ (a : DS), ifS (orB (notB (bE (frE (callB (sh2 isiD) (consL (vE 1) (consL (cE (.ty "tuple")) nilL)))))) (bE (op2 (eqD true) (frE (callB (sh1 lenD) (consL (vE 1) nilL))) (frE (callB (sh1 lenD) (consL (frE (methP "Log" "town_names" 1 m_Log_town_names (vE 0) nilL)) nilL)))))) a skipS [W.w false (.sh (logD L)), W.w false (.sh (offsD L off)), W.un, W.un, W.un, W.un, W.un, W.un, W.un, W.un, W.un] =
      some (.nx [W.w false (.sh (logD L)), W.w false (.sh (offsD L off)), W.un, W.un, W.un, W.un, W.un, W.un, W.un, W.un, W.un]) := by
    intro a
    simp [q1, q2, q3, p_town_names]
  rw [seq_of (s1 _)]
  have s2 : ∀ (a : DS), ifS (notB (bE (frE (callB (sh1 allD) (consL (frE (lcE [2] (itE seqS' (vE 1)) (bN 2) yesB (frE (callP 1 m_is_integer (consL (vE 2) nilL))))) nilL))))) a skipS [W.w false (.sh (logD L)), W.w false (.sh (offsD L off)), W.un, W.un, W.un, W.un, W.un, W.un, W.un, W.un, W.un] =
      some (.nx [W.w false (.sh (logD L)), W.w false (.sh (offsD L off)), W.un, W.un, W.un, W.un, W.un, W.un, W.un, W.un, W.un]) := by
    intro a
    rw [ev_if]
    simp only [ev_notB, ev_bE, ev_fr, ev_callB, ev_cons, e1, Option.map_some, frz_ol, ev_nil, ev_sh1, a1, frz_sh]
    rfl
  rw [seq_of (s2 _)]
  have s3 : ∀ (a : DS), ifS (notB (bE (frE (callB (sh1 allD) (consL (frE (lcE [2, 3, 4, 5] (itL zip2D (consL (vE 1) (consL (frE (propE "Log" m_Log_towns (vE 0))) nilL))) (bT 2 (bCons (bN 2) (bCons (bT 3 (bCons (bN 3) (bCons (bN 4) (bCons (bN 5) bNil)))) bNil))) yesB (chF leI leI (vE 4) (vE 2) (vE 5)))) nilL))))) a skipS [W.w false (.sh (logD L)), W.w false (.sh (offsD L off)), W.un, W.un, W.un, W.un, W.un, W.un, W.un, W.un, W.un] =
      if (L.tw.all fun t => decide (t.2.1 ≤ off t.1 ∧ off t.1 ≤ t.2.2)) then some (.nx [W.w false (.sh (logD L)), W.w false (.sh (offsD L off)), W.un, W.un, W.un, W.un, W.un, W.un, W.un, W.un, W.un]) else a [W.w false (.sh (logD L)), W.w false (.sh (offsD L off)), W.un, W.un, W.un, W.un, W.un, W.un, W.un, W.un, W.un] := by
    intro a
    rw [ev_if]
    simp only [ev_notB, ev_bE, ev_fr, ev_callB, ev_cons, e2, Option.map_some, frz_ol, ev_nil, ev_sh1, a2, frz_sh]
    cases (L.tw.all fun t => decide (t.2.1 ≤ off t.1 ∧ off t.1 ≤ t.2.2)) <;> rfl
  unfold isC
  cases ha : (L.tw.all fun t => decide (t.2.1 ≤ off t.1 ∧ off t.1 ≤ t.2.2)) with
  | false =>
    rw [ev_seq, s3, ha]
    simp
  | true =>
    rw [ev_seq, s3, ha]
    dsimp only [iteT]
    have loop := forR_ret (X := Lt) (enc := letD) (b := bT 4 (bCons (bN 6) (bCons (bN 7) (bCons (bN 8) (bCons (bN 9) bNil)))))
      (body := seqS (asgS 10 (shE (op2 subI (frE (callP 3 m_time_by (consL (vE 0) (consL (vE 1) (consL (vE 7) nilL))))) (frE (callP 3 m_time_by (consL (vE 0) (consL (vE 1) (consL (vE 6) nilL))))))))
        (ifS (orB (bE (op2 ltI (vE 10) (vE 8))) (andB (bE (op2 (isD true) (vE 9) (cE .non))) (bE (op2 gtI (vE 10) (vE 9))))) (retS (shE (cE (.bl false)))) skipS))
      (fun a ρ => a.all (letOk L off) = true ∧ ∃ x6 x7 x8 x9 x10, UW x10 ∧ ρ = [W.w false (.sh (logD L)), W.w false (.sh (offsD L off)), W.un, W.un, W.un, W.un, x6, x7, x8, x9, x10])
      (fun o ρ2 => o = .sh (.bl false) ∧ ∃ l ∈ L.lt, letOk L off l = false) L.lt [] [W.w false (.sh (logD L)), W.w false (.sh (offsD L off)), W.un, W.un, W.un, W.un, W.un, W.un, W.un, W.un, W.un]
      (fun a l c ρ e ⟨i0, x6, x7, x8, x9, x10, u10, er⟩ => by
        subst er
        obtain ⟨k0, k1, k2, k3, k4, k5⟩ := h.lok l (by rw [e]; simp)
        have b1 := p_time_by h off k1
        have b2 := p_time_by h off k2
        refine ⟨[W.w false (.sh (logD L)), W.w false (.sh (offsD L off)), W.un, W.un, W.un, W.un, W.w false (.sh (.str l.1)), W.w false (.sh (.str l.2.1)), W.w false (.sh (.int l.2.2.1)), W.w false (.sh (oD l.2.2.2)), x10], rfl, ?_⟩
        have tk : took L off l = (L.sh l.2.1 - off (L.at l.2.1)) - (L.sh l.1 - off (L.at l.1)) := rfl
        cases ho : letOk L off l with
        | true =>
          refine .inl ⟨[W.w false (.sh (logD L)), W.w false (.sh (offsD L off)), W.un, W.un, W.un, W.un, W.w false (.sh (.str l.1)), W.w false (.sh (.str l.2.1)), W.w false (.sh (.int l.2.2.1)), W.w false (.sh (oD l.2.2.2)), W.w false (.sh (.int (took L off l)))], ?_, ?_, _, _, _, _, _, uw_w _, rfl⟩
          · unfold letOk at ho
            simp only [Bool.and_eq_true, decide_eq_true_eq] at ho
            obtain ⟨o1, o2⟩ := ho
            have o1' : ¬ took L off l < l.2.2.1 := by omega
            cases hm : l.2.2.2 with
            | none => simp [b1, b2, u10, ← tk, o1', isD_oD', oD, isD, Dl.isNon]
            | some m =>
              rw [hm] at o2
              have o2' : ¬ m < took L off l := by have := of_decide_eq_true o2; omega
              simp [b1, b2, u10, ← tk, o1', o2', isD_oD', oD, isD, Dl.isNon]
          · simp only [List.nil_append] at i0 ⊢
            rw [List.all_append, i0]
            simp [ho]
        | false =>
          refine .inr ⟨.sh (.bl false), [W.w false (.sh (logD L)), W.w false (.sh (offsD L off)), W.un, W.un, W.un, W.un, W.w false (.sh (.str l.1)), W.w false (.sh (.str l.2.1)), W.w false (.sh (.int l.2.2.1)), W.w false (.sh (oD l.2.2.2)), W.w false (.sh (.int (took L off l)))], ?_, rfl, l, by rw [e]; simp, ho⟩
          unfold letOk at ho
          by_cases o1 : took L off l < l.2.2.1
          · simp [b1, b2, u10, ← tk, o1]
          · have o1' : l.2.2.1 ≤ took L off l := by omega
            rw [decide_eq_true o1'] at ho
            cases hm : l.2.2.2 with
            | none => rw [hm] at ho; simp at ho
            | some m =>
              rw [hm] at ho
              have o2 : m < took L off l := by
                have : ¬ took L off l ≤ m := by simpa using ho
                omega
              simp [b1, b2, u10, ← tk, o1, o2, oD, isD, Dl.isNon])
      ⟨by simp, W.un, W.un, W.un, W.un, W.un, uw_un, rfl⟩
    have it : itE seqS' (frE (propE "Log" m_Log_letters (vE 0))) [W.w false (.sh (logD L)), W.w false (.sh (offsD L off)), W.un, W.un, W.un, W.un, W.un, W.un, W.un, W.un, W.un] = some (L.lt.map letD, [W.w false (.sh (logD L)), W.w false (.sh (offsD L off)), W.un, W.un, W.un, W.un, W.un, W.un, W.un, W.un, W.un]) := by simp [p_letters h, seqS', seqD]
    rw [ev_seq, ev_for, it]
    dsimp only
    rcases loop with ⟨ρ2, e, i0, x6, x7, x8, x9, x10, u10, rfl⟩ | ⟨o, ρ2, e, rfl, l, hl, hl2⟩
    · rw [e]
      rw [List.nil_append] at i0
      simp [i0]
    · rw [e]
      have : L.lt.all (letOk L off) = false := by
        rw [List.all_eq_false]
        exact ⟨l, hl, by rw [hl2]; simp⟩
      simp [this]
theorem p_check_course {L : Lg} (h : L.Ok) {off : Str → Int} (hc : isC L off = true) : m_check_course [logD L, offsD L off] = some (.sh .non) := by
  unfold m_check_course fnP g_check_course
  simp [p_check_log, p_is_course_of h, hc]
theorem p_times {L : Lg} (h : L.Ok) {off : Str → Int} (hc : isC L off = true) : m_times [logD L, offsD L off] = some (.sh (.tup (L.dn.map fun n => .int (L.sh n - off (L.at n))))) := by
  have e : lcE [2] (itE seqS' (frE (methP "Log" "deed_names" 1 m_Log_deed_names (vE 0) nilL))) (bN 2) yesB (frE (callP 3 m_time_by (consL (vE 0) (consL (vE 1) (consL (vE 2) nilL))))) [W.w false (.sh (logD L)), W.w false (.sh (offsD L off)), W.un] = some (.ol (L.dn.map fun n => .int (L.sh n - off (L.at n))), [W.w false (.sh (logD L)), W.w false (.sh (offsD L off)), W.un]) := by
    refine lcE_map (xs := L.dn) (enc := D.str) (F := fun n => .int (L.sh n - off (L.at n))) (ρ1 := [W.w false (.sh (logD L)), W.w false (.sh (offsD L off)), W.un]) ?_ (decide_eq_true (by have := h.d24; unfold Lg.dn; rw [List.length_map]; omega)) fun n hn => ?_
    · have : strsL L.dn = L.dn.map D.str := rfl
      simp [p_deed_names, seqS', seqD, ← this]
    · exact ⟨[W.w false (.sh (logD L)), W.w false (.sh (offsD L off)), W.w false (.sh (.str n))], [W.w false (.sh (logD L)), W.w false (.sh (offsD L off)), W.w false (.sh (.str n))], rfl, by simp [p_time_by h off hn], rfl⟩
  unfold m_times fnP g_times
  simp [p_check_course h hc, e, tupleD]
/-! ### courses and potentials -/
def offP (off : Str → Int) (c : Str) : Int := if c = "." then 0 else off c
theorem pot_of_course {L : Lg} (h : L.Ok) {off : Str → Int} (hc : isC L off = true) : Pot' (stepsL L) (offP off) := fun s hs => by
  unfold isC at hc
  simp only [Bool.and_eq_true, List.all_eq_true, decide_eq_true_eq] at hc
  obtain ⟨h1, h2⟩ := hc
  have ne : ∀ c ∈ L.tn, offP off c = off c := fun c hc => if_neg (dot_ne h hc)
  have nd : offP off "." = 0 := if_pos rfl
  rcases mem_steps.mp hs with ⟨t, ht, q⟩ | ⟨l, hl, q⟩
  · have q1 := h1 t ht
    have q2 := ne t.1 (List.mem_map_of_mem ht)
    simp only [townSp, List.mem_cons, List.not_mem_nil, or_false] at q
    rcases q with rfl | rfl
    · dsimp only; rw [nd, q2]; omega
    · dsimp only; rw [nd, q2]; omega
  · obtain ⟨k0, k1, k2, _⟩ := h.lok l hl
    have q1 := ne _ (h.at_mem k1)
    have q2 := ne _ (h.at_mem k2)
    have q3 := h2 l hl
    unfold letOk took at q3
    simp only [Bool.and_eq_true, decide_eq_true_eq] at q3
    obtain ⟨q4, q5⟩ := q3
    unfold letSp at q
    rcases List.mem_cons.mp q with rfl | q
    · dsimp only; rw [q1, q2]; unfold overL; omega
    · split at q
      · cases q
      · rename_i m hm
        rw [hm] at q5
        have q5' := of_decide_eq_true q5
        simp only [List.mem_cons, List.not_mem_nil, or_false] at q
        subst q
        dsimp only; rw [q1, q2]; unfold overL; omega
theorem course_of_pot {L : Lg} (h : L.Ok) {p : Str → Int} (hp : Pot' (stepsL L) p) : isC L (fun c => p c - p ".") = true := by
  unfold isC
  simp only [Bool.and_eq_true, List.all_eq_true, decide_eq_true_eq]
  refine ⟨fun t ht => ?_, fun l hl => ?_⟩
  · have a := hp _ (mem_steps.mpr (.inl ⟨t, ht, List.mem_cons_self⟩))
    have b := hp _ (mem_steps.mpr (.inl ⟨t, ht, List.mem_cons_of_mem _ List.mem_cons_self⟩))
    dsimp only at a b
    omega
  · have a := hp _ (mem_steps.mpr (.inr ⟨l, hl, List.mem_cons_self⟩))
    unfold letOk took
    simp only [Bool.and_eq_true, decide_eq_true_eq]
    dsimp only at a
    unfold overL at a
    refine ⟨by omega, ?_⟩
    cases hm : l.2.2.2 with
    | none => rfl
    | some m =>
      have b := hp (L.at l.1, L.at l.2.1, overL L l - m, .tup [.str "most", .str l.1, .str l.2.1]) (mem_steps.mpr (.inr ⟨l, hl, by
        unfold letSp; rw [hm]; exact List.mem_cons_of_mem _ List.mem_cons_self⟩))
      dsimp only at b
      unfold overL at b
      exact decide_eq_true (by omega)
theorem courseL_is {L : Lg} (a : Str) : (D.tup ((courseL L a).map D.int)) = offsD L (fun c => L.G a c - L.G a ".") := rfl
theorem courseL_ok {L : Lg} (h : L.Ok) (hf : Fits L) {a : Str} (ha : a ∈ clocksL L) : isC L (fun c => L.G a c - L.G a ".") = true := course_of_pot h (G_pot h hf ha)
end Mi
/-! text S33 -/
set_option linter.all false
set_option maxRecDepth 100000
set_option maxHeartbeats 1000000
namespace Mi
open PySem L2 Dl TL
theorem join_ok {ys : List Str} (h : (ys.map (·.length)).sum + ys.length ≤ 100000) : joinD (.str (" " : Str)) (.lst (strsL ys)) = some (.sh (.str (Txt.join " " ys))) := by
  show (match strsD (strsL ys) with | some ys => if small ((ys.map fun y : Str => y.length).sum + ys.length * (" " : Str).length) then some (O.sh (.str (Txt.join " " ys))) else none | none => none) = _
  have : strsD (strsL ys) = some ys := strs_of ys
  rw [this, z_len.2.2.2.1]
  have s : small ((ys.map (·.length)).sum + ys.length * 1) = true := decide_eq_true (by omega)
  dsimp only
  rw [s]; rfl
theorem str_int {i : Int} (h : i.natAbs < 10 ^ 6) : strD (.int i) = some (.str (I i)) := strD_int h
abbrev wrS (A B C : D) (ls : List Str) (r : List W) : List W := W.w false (.sh A) :: W.w false (.sh B) :: W.w false (.sh C) :: W.w false (.ol (strsL ls)) :: r
theorem p_written {L : Lg} (h : L.Ok) {A B C : D} (hA : seqS' A = some (L.tw.map townD)) (hB : seqS' B = some (L.dd.map deedD)) (hC : seqS' C = some (L.lt.map letD)) : m_written [A, B, C] = some (logO L) := by
  have t8 := h.t8
  have d24 := h.d24
  have l40 := h.l40
  have e1 : lcE [4, 5, 6] (itE seqS' (vE 0)) (bT 3 (bCons (bN 4) (bCons (bN 5) (bCons (bN 6) bNil)))) yesB (frE (m1E joinD (cE (.str " ")) (frE (lstE (consL (cE (.str "town")) (consL (vE 4) (consL (frE (callB (sh1 strD) (consL (vE 5) nilL))) (consL (frE (callB (sh1 strD) (consL (vE 6) nilL))) nilL))))))))
      [W.w false (.sh A), W.w false (.sh B), W.w false (.sh C), W.un, W.un, W.un, W.un, W.un, W.un, W.un, W.un, W.un, W.un] = some (.ol (L.tw.map fun t => .str (lineT t)), [W.w false (.sh A), W.w false (.sh B), W.w false (.sh C), W.un, W.un, W.un, W.un, W.un, W.un, W.un, W.un, W.un, W.un]) := by
    refine lcE_map (xs := L.tw) (enc := townD) (F := fun t => .str (lineT t)) (by simp [hA]) (decide_eq_true (by omega)) fun t ht => ?_
    obtain ⟨k1, k2, k3, k4⟩ := h.tok t ht
    have a1 := str_int (i := t.2.1) (by omega)
    have a2 := str_int (i := t.2.2) (by omega)
    have l1 := k1.len
    have l2 : (I t.2.1).length ≤ 7 := len_int (by omega)
    have l3 : (I t.2.2).length ≤ 7 := len_int (by omega)
    have j := join_ok (ys := [("town" : Str), t.1, I t.2.1, I t.2.2]) (by
      simp only [List.map_cons, List.map_nil, List.sum_cons, List.sum_nil, List.length_cons, List.length_nil, z_len]; omega)
    simp only [strsL, List.map_cons, List.map_nil] at j
    refine ⟨[W.w false (.sh A), W.w false (.sh B), W.w false (.sh C), W.un, W.w false (.sh (.str t.1)), W.w false (.sh (.int t.2.1)), W.w false (.sh (.int t.2.2)), W.un, W.un, W.un, W.un, W.un, W.un], [W.w false (.sh A), W.w false (.sh B), W.w false (.sh C), W.un, W.w false (.sh (.str t.1)), W.w false (.sh (.int t.2.1)), W.w false (.sh (.int t.2.2)), W.un, W.un, W.un, W.un, W.un, W.un], rfl, ?_, rfl⟩
    simp [a1, a2, small, j, lineT]
  have e2 : ∀ z, lcE [4, 7, 8] (itE seqS' (vE 1)) (bT 3 (bCons (bN 4) (bCons (bN 7) (bCons (bN 8) bNil)))) yesB (frE (m1E joinD (cE (.str " ")) (frE (lstE (consL (cE (.str "deed")) (consL (vE 4) (consL (vE 7) (consL (frE (callB (sh1 strD) (consL (vE 8) nilL))) nilL))))))))
      [W.w false (.sh A), W.w false (.sh B), W.w false (.sh C), z, W.un, W.un, W.un, W.un, W.un, W.un, W.un, W.un, W.un] = some (.ol (L.dd.map fun t => .str (lineD t)), [W.w false (.sh A), W.w false (.sh B), W.w false (.sh C), z, W.un, W.un, W.un, W.un, W.un, W.un, W.un, W.un, W.un]) := by
    intro z
    refine lcE_map (xs := L.dd) (enc := deedD) (F := fun t => .str (lineD t)) (by simp [hB]) (decide_eq_true (by omega)) fun t ht => ?_
    obtain ⟨k1, k2, k3, k4⟩ := h.dok t ht
    have a2 := str_int (i := t.2.2) (by omega)
    have l1 := k1.len
    have l2 := (h.tnm k2).len
    have l3 : (I t.2.2).length ≤ 7 := len_int (by omega)
    have j := join_ok (ys := [("deed" : Str), t.1, t.2.1, I t.2.2]) (by
      simp only [List.map_cons, List.map_nil, List.sum_cons, List.sum_nil, List.length_cons, List.length_nil, z_len]; omega)
    simp only [strsL, List.map_cons, List.map_nil] at j
    refine ⟨[W.w false (.sh A), W.w false (.sh B), W.w false (.sh C), z, W.w false (.sh (.str t.1)), W.un, W.un, W.w false (.sh (.str t.2.1)), W.w false (.sh (.int t.2.2)), W.un, W.un, W.un, W.un], [W.w false (.sh A), W.w false (.sh B), W.w false (.sh C), z, W.w false (.sh (.str t.1)), W.un, W.un, W.w false (.sh (.str t.2.1)), W.w false (.sh (.int t.2.2)), W.un, W.un, W.un, W.un], rfl, ?_, rfl⟩
    simp [a2, small, j, lineD]
  obtain ⟨ρ3, e3, x9, x10, x11, x12, rfl⟩ := forR_rel0 (l := L.lt) (enc := letD) (b := bT 4 (bCons (bN 9) (bCons (bN 10) (bCons (bN 11) (bCons (bN 12) bNil)))))
    (body := appS (.sl 3) (frE (m1E joinD (cE (.str " ")) (frE (lstE (consL (cE (.str "letter")) (consL (vE 9) (consL (vE 10) (consL (frE (callB (sh1 strD) (consL (vE 11) nilL))) (consL (ifE (bE (op2 (isD false) (vE 12) (cE .non))) (cE (.str "*")) (frE (callB (sh1 strD) (consL (vE 12) nilL)))) nilL))))))))))
    (ρ := wrS A B C (L.tw.map lineT ++ L.dd.map lineD) [W.un, W.un, W.un, W.un, W.un, W.un, W.un, W.un, W.un])
    (fun a ρ => ∃ x9 x10 x11 x12, ρ = wrS A B C (L.tw.map lineT ++ L.dd.map lineD ++ a.map lineL) [W.un, W.un, W.un, W.un, W.un, x9, x10, x11, x12])
    (fun a l c ρ e ⟨x9, x10, x11, x12, er⟩ => by
      subst er
      obtain ⟨k0, k1, k2, k3, k4, k5⟩ := h.lok l (by rw [e]; simp)
      have hl : a.length + 1 ≤ 40 := by rw [e] at l40; simp only [List.length_append, List.length_cons] at l40; omega
      have a2 := str_int (i := l.2.2.1) (by omega)
      have l1 := (h.dnm k1).len
      have l2 := (h.dnm k2).len
      have l3 : (I l.2.2.1).length ≤ 7 := len_int (by omega)
      have l4 : (starT l.2.2.2).length ≤ 7 := star_len fun i hi => by have := k5 i hi; omega
      have j := join_ok (ys := [("letter" : Str), l.1, l.2.1, I l.2.2.1, starT l.2.2.2]) (by
        simp only [List.map_cons, List.map_nil, List.sum_cons, List.sum_nil, List.length_cons, List.length_nil, z_len]; omega)
      simp only [strsL, List.map_cons, List.map_nil] at j
      have sz : (L.tw.map lineT ++ L.dd.map lineD ++ a.map lineL).length ≤ 100000 := by simp only [List.length_append, List.length_map]; omega
      refine ⟨wrS A B C (L.tw.map lineT ++ L.dd.map lineD ++ a.map lineL) [W.un, W.un, W.un, W.un, W.un, W.w false (.sh (.str l.1)), W.w false (.sh (.str l.2.1)), W.w false (.sh (.int l.2.2.1)), W.w false (.sh (oD l.2.2.2))], wrS A B C (L.tw.map lineT ++ L.dd.map lineD ++ (a ++ [l]).map lineL) [W.un, W.un, W.un, W.un, W.un, W.w false (.sh (.str l.1)), W.w false (.sh (.str l.2.1)), W.w false (.sh (.int l.2.2.1)), W.w false (.sh (oD l.2.2.2))], rfl, ?_, _, _, _, _, rfl⟩
      have ew : strsL (L.tw.map lineT ++ L.dd.map lineD ++ (a ++ [l]).map lineL) = strsL (L.tw.map lineT ++ L.dd.map lineD ++ a.map lineL) ++ [.str (lineL l)] := by simp [strsL]
      simp only [wrS, ew]
      have sz2 : (strsL (L.tw.map lineT ++ L.dd.map lineD ++ a.map lineL)).length ≤ 100000 := by unfold strsL; rw [List.length_map]; exact sz
      generalize strsL (L.tw.map lineT ++ L.dd.map lineD ++ a.map lineL) = ac at sz2
      cases hm : l.2.2.2 with
      | none =>
        rw [hm] at j
        simp only [starT] at j
        simp [a2, small, j, lineL, oD, isD, Dl.isNon, sz2, hm, starT]
      | some m =>
        have a3 := str_int (i := m) (by have := k5 m hm; omega)
        rw [hm] at j
        simp only [starT] at j
        simp [a2, a3, small, j, lineL, oD, isD, Dl.isNon, sz2, hm, starT])
    ⟨W.un, W.un, W.un, W.un, by simp⟩
  have s1 : asgS 3 (lcE [4, 5, 6] (itE seqS' (vE 0)) (bT 3 (bCons (bN 4) (bCons (bN 5) (bCons (bN 6) bNil)))) yesB (frE (m1E joinD (cE (.str " ")) (frE (lstE (consL (cE (.str "town")) (consL (vE 4) (consL (frE (callB (sh1 strD) (consL (vE 5) nilL))) (consL (frE (callB (sh1 strD) (consL (vE 6) nilL))) nilL)))))))))
      [W.w false (.sh A), W.w false (.sh B), W.w false (.sh C), W.un, W.un, W.un, W.un, W.un, W.un, W.un, W.un, W.un, W.un] = some (.nx (wrS A B C (L.tw.map lineT) [W.un, W.un, W.un, W.un, W.un, W.un, W.un, W.un, W.un])) := by
    rw [ev_asg, e1]
    have : (L.tw.map fun t => D.str (lineT t)) = strsL (L.tw.map lineT) := by simp [strsL]
    rw [this]
    rfl
  have s2 : extS (.sl 3) (frE (lcE [4, 7, 8] (itE seqS' (vE 1)) (bT 3 (bCons (bN 4) (bCons (bN 7) (bCons (bN 8) bNil)))) yesB (frE (m1E joinD (cE (.str " ")) (frE (lstE (consL (cE (.str "deed")) (consL (vE 4) (consL (vE 7) (consL (frE (callB (sh1 strD) (consL (vE 8) nilL))) nilL))))))))))
      (wrS A B C (L.tw.map lineT) [W.un, W.un, W.un, W.un, W.un, W.un, W.un, W.un, W.un]) = some (.nx (wrS A B C (L.tw.map lineT ++ L.dd.map lineD) [W.un, W.un, W.un, W.un, W.un, W.un, W.un, W.un, W.un])) := by
    have : (L.dd.map fun t => D.str (lineD t)) = strsL (L.dd.map lineD) := by simp [strsL]
    have e2' := e2 (W.w false (.ol (strsL (L.tw.map lineT))))
    have sz : (strsL (L.tw.map lineT)).length + (strsL (L.dd.map lineD)).length ≤ 100000 := by unfold strsL; simp only [List.length_map]; omega
    have ea : strsL (L.tw.map lineT ++ L.dd.map lineD) = strsL (L.tw.map lineT) ++ strsL (L.dd.map lineD) := by simp [strsL]
    rw [this] at e2'
    simp only [wrS, ea]
    generalize strsL (L.tw.map lineT) = a1 at *
    generalize strsL (L.dd.map lineD) = a2 at *
    rw [ev_ext]
    simp only [ev_fr, e2']
    simp [small, sz]
  have s3 : forS (itE seqS' (vE 2)) (bT 4 (bCons (bN 9) (bCons (bN 10) (bCons (bN 11) (bCons (bN 12) bNil)))))
      (appS (.sl 3) (frE (m1E joinD (cE (.str " ")) (frE (lstE (consL (cE (.str "letter")) (consL (vE 9) (consL (vE 10) (consL (frE (callB (sh1 strD) (consL (vE 11) nilL))) (consL (ifE (bE (op2 (isD false) (vE 12) (cE .non))) (cE (.str "*")) (frE (callB (sh1 strD) (consL (vE 12) nilL)))) nilL))))))))))
      (wrS A B C (L.tw.map lineT ++ L.dd.map lineD) [W.un, W.un, W.un, W.un, W.un, W.un, W.un, W.un, W.un]) = some (.nx (wrS A B C (linesOf L) [W.un, W.un, W.un, W.un, W.un, x9, x10, x11, x12])) := by
    have it : itE seqS' (vE 2) (wrS A B C (L.tw.map lineT ++ L.dd.map lineD) [W.un, W.un, W.un, W.un, W.un, W.un, W.un, W.un, W.un]) = some (L.lt.map letD, wrS A B C (L.tw.map lineT ++ L.dd.map lineD) [W.un, W.un, W.un, W.un, W.un, W.un, W.un, W.un, W.un]) := by simp [hC]
    rw [ev_for, it]
    dsimp only
    rw [e3]
    unfold linesOf
    rw [List.append_assoc]
  have jt : joinD (.str ("\n" : Str)) (.lst (strsL (linesOf L))) = some (.sh (.str (textOf L))) := by
    obtain ⟨h1, h2, h3⟩ := h.lines
    show (match strsD (strsL (linesOf L)) with | some ys => if small ((ys.map fun y : Str => y.length).sum + ys.length * ("\n" : Str).length) then some (O.sh (.str (Txt.join "\n" ys))) else none | none => none) = _
    have : strsD (strsL (linesOf L)) = some (linesOf L) := strs_of _
    have s := sum_le (n := 60) (l := linesOf L) fun x hx => (h1 x hx).2
    rw [this, z_len.2.2.2.2.1]
    have s : small (((linesOf L).map (·.length)).sum + (linesOf L).length * 1) = true := decide_eq_true (by omega)
    dsimp only
    rw [s]; rfl
  unfold m_written fnP g_written
  simp only [List.map_cons, List.map_nil, List.cons_append, List.nil_append, show (13 - 3 : Nat) = 10 from rfl, show List.replicate 10 W.un = [W.un, W.un, W.un, W.un, W.un, W.un, W.un, W.un, W.un, W.un] from rfl]
  rw [seq_of s1, seq_of s2, seq_of s3]
  have e5 : consL (frE (m1E joinD (cE (.str "\n")) (vF 3))) nilL (wrS A B C (linesOf L) [W.un, W.un, W.un, W.un, W.un, x9, x10, x11, x12]) = some ([.str (textOf L)], [W.w false (.sh A), W.w false (.sh B), W.w false (.sh C), W.w false (.sh (.lst (strsL (linesOf L)))), W.un, W.un, W.un, W.un, W.un, x9, x10, x11, x12]) := by
    simp [jt]
  rw [ev_ret, mk_Log h e5]
  rfl
end Mi
/-! text S34 -/
set_option linter.all false
set_option maxRecDepth 100000
set_option maxHeartbeats 1000000
namespace Mi
open PySem L2 Dl TL
/-! ### lots, logs without some deeds -/
theorem str_inj {a b : Str} : (D.str a = D.str b) ↔ a = b := by simp
theorem eqvDs_strs : ∀ (l m : List Str), eqvDs (strsL l) (strsL m) = decide (l = m)
  | [], [] => rfl
  | [], _ :: _ => by simp [strsL, eqvDs]
  | _ :: _, [] => by simp [strsL, eqvDs]
  | a :: l, b :: m => by
    show (eqvD (.str a) (.str b) && eqvDs (strsL l) (strsL m)) = _
    rw [eqvDs_strs l m]
    have : eqvD (.str a) (.str b) = (a == b) := by unfold eqvD; rfl
    rw [this, beq_str]
    by_cases h : a = b
    · subst h; simp
    · simp [h]
theorem okDs_strs (n : Nat) {l : List Str} (h : ∀ x ∈ l, PyData.canLay0 (.str x) = true) : okDs n (strsL l) = true := okDs_names n fun d hd => by
  obtain ⟨x, hx, rfl⟩ := List.mem_map.mp hd
  unfold okD
  exact h x hx
theorem eq_tup_strs {l m : List Str} (neg : Bool) (hl : ∀ x ∈ l, PyData.canLay0 (.str x) = true) (hm : ∀ x ∈ m, PyData.canLay0 (.str x) = true) : eqD neg (.tup (strsL l)) (.tup (strsL m)) = some (.bl (if neg then !decide (l = m) else decide (l = m))) := by
  rw [eqD_ok (by show (decide (0 < 60) && okDs 59 (strsL l)) = true; rw [okDs_strs 59 hl]; rfl) (by show (decide (0 < 60) && okDs 59 (strsL m)) = true; rw [okDs_strs 59 hm]; rfl)]
  have : eqvD (.tup (strsL l)) (.tup (strsL m)) = eqvDs (strsL l) (strsL m) := by unfold eqvD; rfl
  rw [this, eqvDs_strs]
theorem filterMap_if {X Y : Type} (p : X → Bool) (f : X → Y) (l : List X) : (l.filterMap fun x => if p x = true then some (f x) else none) = (l.filter p).map f := by
  induction l with
  | nil => rfl
  | cons a r ih => cases q : p a <;> simp [List.filterMap_cons, List.filter_cons, q, ih]
theorem p_is_lot_of {L : Lg} (h : L.Ok) {ns : List Str} (hn : ∀ n ∈ ns, PyData.canLay0 (.str n) = true) (hl : ns.length ≤ 1000) : m_is_lot_of [logD L, .tup (strsL ns)] = some (.sh (.bl (decide (ns = L.dn.filter fun n => decide (n ∈ ns))))) := by
  have q1 : isiD (.tup (strsL ns)) (.ty "tuple") = some (.bl true) := rfl
  have c2 : seqS' (.tup (strsL ns)) = some (ns.map D.str) := rfl
  have e1 : lcE [2] (itE seqS' (vE 1)) (bN 2) yesB (frE (callB (sh2 isiD) (consL (vE 2) (consL (cE (.ty "str")) nilL)))) [W.w false (.sh (logD L)), W.w false (.sh (.tup (strsL ns))), W.un] = some (.ol (ns.map fun _ => .bl true), [W.w false (.sh (logD L)), W.w false (.sh (.tup (strsL ns))), W.un]) := by
    refine lcE_map (xs := ns) (enc := D.str) (F := fun _ => .bl true) (by simp [c2]) (decide_eq_true (by omega)) fun x _ => ?_
    have q : isiD (.str x) (.ty "str") = some (.bl true) := rfl
    exact ⟨[W.w false (.sh (logD L)), W.w false (.sh (.tup (strsL ns))), W.w false (.sh (.str x))], [W.w false (.sh (logD L)), W.w false (.sh (.tup (strsL ns))), W.w false (.sh (.str x))], rfl, by simp [q], rfl⟩
  have a1 : allD (.lst (ns.map fun _ => D.bl true)) = some (.bl true) := all_true _
  have e2 : lcE [2] (itE seqS' (frE (methP "Log" "deed_names" 1 m_Log_deed_names (vE 0) nilL))) (bN 2) (bE (op2 (inD false) (vE 2) (vE 1))) (vE 2) [W.w false (.sh (logD L)), W.w false (.sh (.tup (strsL ns))), W.un] = some (.ol (strsL (L.dn.filter fun n => decide (n ∈ ns))), [W.w false (.sh (logD L)), W.w false (.sh (.tup (strsL ns))), W.un]) := by
    rw [lcE_pure (xs := L.dn) (enc := D.str) (F := fun n => if decide (n ∈ ns) = true then some (.str n) else none) (ρ1 := [W.w false (.sh (logD L)), W.w false (.sh (.tup (strsL ns))), W.un])]
    · rw [filterMap_if]; rfl
    · have : strsL L.dn = L.dn.map D.str := rfl
      simp [p_deed_names, seqS', seqD, ← this]
    · exact decide_eq_true (by have := h.d24; unfold Lg.dn; rw [List.length_map]; omega)
    · intro n _
      by_cases q : n ∈ ns
      · exact .inr ⟨.str n, by simp [q], [W.w false (.sh (logD L)), W.w false (.sh (.tup (strsL ns))), W.w false (.sh (.str n))], [W.w false (.sh (logD L)), W.w false (.sh (.tup (strsL ns))), W.w false (.sh (.str n))], [W.w false (.sh (logD L)), W.w false (.sh (.tup (strsL ns))), W.w false (.sh (.str n))], rfl, by simp [in_strsT, q], by simp, rfl⟩
      · exact .inl ⟨by simp [q], [W.w false (.sh (logD L)), W.w false (.sh (.tup (strsL ns))), W.w false (.sh (.str n))], [W.w false (.sh (logD L)), W.w false (.sh (.tup (strsL ns))), W.w false (.sh (.str n))], rfl, by simp [in_strsT, q], rfl⟩
  have e3 := eq_tup_strs (l := ns) (m := L.dn.filter fun n => decide (n ∈ ns)) false hn (fun x hx => (h.dnm (List.mem_filter.mp hx).1).lay)
  unfold m_is_lot_of fnP g_is_lot_of
  simp only [List.map_cons, List.map_nil, List.cons_append, List.nil_append, show (3 - 2 : Nat) = 1 from rfl, show List.replicate 1 W.un = [W.un] from rfl]
  have s1 : ifS (orB (notB (bE (frE (callB (sh2 isiD) (consL (vE 1) (consL (cE (.ty "tuple")) nilL)))))) (notB (bE (frE (callB (sh1 allD) (consL (frE (lcE [2] (itE seqS' (vE 1)) (bN 2) yesB (frE (callB (sh2 isiD) (consL (vE 2) (consL (cE (.ty "str")) nilL)))))) nilL)))))) (retS (shE (cE (.bl false)))) skipS [W.w false (.sh (logD L)), W.w false (.sh (.tup (strsL ns))), W.un] = some (.nx [W.w false (.sh (logD L)), W.w false (.sh (.tup (strsL ns))), W.un]) := by
    simp [q1, e1, a1]
  rw [seq_of s1]
  simp only [ev_ret, ev_sh, ev_op2, ev_v, List.getElem?_cons_succ, List.getElem?_cons_zero, ev_fr, ev_callB, ev_cons, e2, Option.map_some, frz_ol, ev_nil, ev_sh1, tupleD, frz_sh, e3]
  simp
theorem p_check_lot {L : Lg} (h : L.Ok) {ns : List Str} (hn : ∀ n ∈ ns, PyData.canLay0 (.str n) = true) (hl : ns.length ≤ 1000) (he : ns = L.dn.filter fun n => decide (n ∈ ns)) : m_check_lot [logD L, .tup (strsL ns)] = some (.sh .non) := by
  have := p_is_lot_of h hn hl
  rw [decide_eq_true he] at this
  unfold m_check_lot fnP g_check_lot
  simp [p_check_log, this]
/-- a log without some deeds -/
def Lg.less (L : Lg) (ns : List Str) : Lg := ⟨L.tw, L.dd.filter fun d => decide (d.1 ∉ ns), L.lt.filter fun l => decide (l.1 ∉ ns ∧ l.2.1 ∉ ns)⟩
theorem Lg.Ok.less {L : Lg} (h : L.Ok) (ns : List Str) : (L.less ns).Ok where
  t0 := h.t0
  t8 := h.t8
  tok := h.tok
  tu := h.tu
  d24 := Nat.le_trans (List.length_filter_le _ _) h.d24
  dok := fun d hd => h.dok d (List.mem_filter.mp hd).1
  du := by
    have : (L.less ns).dn.Sublist L.dn := List.Sublist.map _ List.filter_sublist
    exact this.nodup h.du
  l40 := Nat.le_trans (List.length_filter_le _ _) h.l40
  lok := fun l hl => by
    obtain ⟨h1, h2⟩ := List.mem_filter.mp hl
    obtain ⟨k0, k1, k2, k3⟩ := h.lok l h1
    have h2 := of_decide_eq_true h2
    have mem : ∀ n ∈ L.dn, n ∉ ns → n ∈ (L.less ns).dn := fun n hn hx => by
      obtain ⟨d, hd, rfl⟩ := List.mem_map.mp hn
      exact List.mem_map_of_mem (List.mem_filter.mpr ⟨hd, decide_eq_true hx⟩)
    exact ⟨k0, mem _ k1 h2.1, mem _ k2 h2.2, k3⟩
  lu := by
    have : (L.less ns).ends.Sublist L.ends := List.Sublist.map _ List.filter_sublist
    exact this.nodup h.lu
theorem p_without {L : Lg} (h : L.Ok) {ns : List Str} (hn : ∀ n ∈ ns, PyData.canLay0 (.str n) = true) (hl : ns.length ≤ 1000) (he : ns = L.dn.filter fun n => decide (n ∈ ns)) : m_without [logD L, .tup (strsL ns)] = some (logO (L.less ns)) := by
  have s0 : ∀ r, dropS (frE (callP 2 m_check_lot (consL (vE 0) (consL (vE 1) nilL)))) (W.w false (.sh (logD L)) :: W.w false (.sh (.tup (strsL ns))) :: r) = some (.nx (W.w false (.sh (logD L)) :: W.w false (.sh (.tup (strsL ns))) :: r)) := fun r => by
    simp [p_check_lot h hn hl he]
  have e2 : lcE [3] (itE seqS' (frE (propE "Log" m_Log_deeds (vE 0)))) (bN 3) (bE (op2 (inD true) (op2 subD (vE 3) (cE (.int 0))) (vE 1))) (vE 3) [W.w false (.sh (logD L)), W.w false (.sh (.tup (strsL ns))), W.un, W.un, W.un] = some (.ol ((L.less ns).dd.map deedD), [W.w false (.sh (logD L)), W.w false (.sh (.tup (strsL ns))), W.un, W.un, W.un]) := by
    rw [lcE_pure (xs := L.dd) (enc := deedD) (F := fun d => if decide (d.1 ∉ ns) = true then some (deedD d) else none) (ρ1 := [W.w false (.sh (logD L)), W.w false (.sh (.tup (strsL ns))), W.un, W.un, W.un])]
    · rw [filterMap_if]; rfl
    · simp [p_deeds h, seqS', seqD]
    · exact decide_eq_true (by have := h.d24; omega)
    · intro d _
      by_cases q : d.1 ∈ ns
      · exact .inl ⟨by simp [q], [W.w false (.sh (logD L)), W.w false (.sh (.tup (strsL ns))), W.un, W.w false (.sh (deedD d)), W.un], [W.w false (.sh (logD L)), W.w false (.sh (.tup (strsL ns))), W.un, W.w false (.sh (deedD d)), W.un], rfl, by simp [in_strsT, q, deedD], rfl⟩
      · exact .inr ⟨deedD d, by simp [q], [W.w false (.sh (logD L)), W.w false (.sh (.tup (strsL ns))), W.un, W.w false (.sh (deedD d)), W.un], [W.w false (.sh (logD L)), W.w false (.sh (.tup (strsL ns))), W.un, W.w false (.sh (deedD d)), W.un], [W.w false (.sh (logD L)), W.w false (.sh (.tup (strsL ns))), W.un, W.w false (.sh (deedD d)), W.un], rfl, by simp [in_strsT, q, deedD], by simp, rfl⟩
  have e4 : ∀ z, lcE [3] (itE seqS' (frE (propE "Log" m_Log_letters (vE 0)))) (bN 3) (andB (bE (op2 (inD true) (op2 subD (vE 3) (cE (.int 0))) (vE 1))) (bE (op2 (inD true) (op2 subD (vE 3) (cE (.int 1))) (vE 1)))) (vE 3) [W.w false (.sh (logD L)), W.w false (.sh (.tup (strsL ns))), z, W.un, W.un] = some (.ol ((L.less ns).lt.map letD), [W.w false (.sh (logD L)), W.w false (.sh (.tup (strsL ns))), z, W.un, W.un]) := by
    intro z
    rw [lcE_pure (xs := L.lt) (enc := letD) (F := fun l => if decide (l.1 ∉ ns ∧ l.2.1 ∉ ns) = true then some (letD l) else none) (ρ1 := [W.w false (.sh (logD L)), W.w false (.sh (.tup (strsL ns))), z, W.un, W.un])]
    · rw [filterMap_if]; rfl
    · simp [p_letters h, seqS', seqD]
    · exact decide_eq_true (by have := h.l40; omega)
    · intro d _
      by_cases q : d.1 ∈ ns
      · exact .inl ⟨by simp [q], [W.w false (.sh (logD L)), W.w false (.sh (.tup (strsL ns))), z, W.w false (.sh (letD d)), W.un], [W.w false (.sh (logD L)), W.w false (.sh (.tup (strsL ns))), z, W.w false (.sh (letD d)), W.un], rfl, by simp [in_strsT, q, letD], rfl⟩
      · by_cases q2 : d.2.1 ∈ ns
        · exact .inl ⟨by simp [q2], [W.w false (.sh (logD L)), W.w false (.sh (.tup (strsL ns))), z, W.w false (.sh (letD d)), W.un], [W.w false (.sh (logD L)), W.w false (.sh (.tup (strsL ns))), z, W.w false (.sh (letD d)), W.un], rfl, by simp [in_strsT, q, q2, letD], rfl⟩
        · exact .inr ⟨letD d, by simp [q, q2], [W.w false (.sh (logD L)), W.w false (.sh (.tup (strsL ns))), z, W.w false (.sh (letD d)), W.un], [W.w false (.sh (logD L)), W.w false (.sh (.tup (strsL ns))), z, W.w false (.sh (letD d)), W.un], [W.w false (.sh (logD L)), W.w false (.sh (.tup (strsL ns))), z, W.w false (.sh (letD d)), W.un], rfl, by simp [in_strsT, q, q2, letD], by simp, rfl⟩
  have w := p_written (h.less ns) (A := .tup (L.tw.map townD)) (B := .lst ((L.less ns).dd.map deedD)) (C := .lst ((L.less ns).lt.map letD)) rfl rfl rfl
  unfold m_without fnP g_without
  simp only [List.map_cons, List.map_nil, List.cons_append, List.nil_append, show (5 - 2 : Nat) = 3 from rfl, show List.replicate 3 W.un = [W.un, W.un, W.un] from rfl]
  rw [seq_of (s0 _)]
  simp only [ev_seq, ev_asg, e2, nb_s, nb_un, if_true, List.set_cons_succ, List.set_cons_zero, e4]
  generalize (L.less ns).dd.map deedD = a1 at w
  generalize (L.less ns).lt.map letD = a2 at w
  simp [p_towns h, w]
end Mi
/-! text Q20 -/
set_option linter.all false
set_option maxRecDepth 100000
set_option maxHeartbeats 1000000
namespace Hk98
open PySem L2 Dl TL Mi
abbrev Rw := Int × Int × Int
def tN (i : Nat) : Str := ("t" : Str) ++ I (i : Nat)
def dN (i : Nat) : Str := ("d" : Str) ++ I (i : Nat)
theorem nm_tN {i : Nat} (h : i < 8) : Nm (tN i) := by
  have : i = 0 ∨ i = 1 ∨ i = 2 ∨ i = 3 ∨ i = 4 ∨ i = 5 ∨ i = 6 ∨ i = 7 := by omega
  unfold Nm tN
  rcases this with h | h | h | h | h | h | h | h <;> subst h <;> decide +kernel
theorem nm_dN {i : Nat} (h : i < 8) : Nm (dN i) := by
  have : i = 0 ∨ i = 1 ∨ i = 2 ∨ i = 3 ∨ i = 4 ∨ i = 5 ∨ i = 6 ∨ i = 7 := by omega
  unfold Nm dN
  rcases this with h | h | h | h | h | h | h | h <;> subst h <;> decide +kernel
theorem app_inj {a b c : Str} (h : a ++ b = a ++ c) : b = c := by
  have := congrArg tl h
  rw [tl_app, tl_app] at this
  exact of_tl (List.append_cancel_left this)
theorem I_inj {i j : Nat} (h : I (i : Nat) = I (j : Nat)) : i = j := by
  have := congrArg tl h
  rw [tl_num, tl_num] at this
  exact numL_inj this
theorem tN_inj {i j : Nat} (h : tN i = tN j) : i = j := I_inj (app_inj h)
theorem dN_inj {i j : Nat} (h : dN i = dN j) : i = j := I_inj (app_inj h)
/-- clocks read at once: n towns, deeds in the first m -/
def logM (f : Nat → Rw) (n m : Nat) : Lg := ⟨(List.range n).map fun i => (tN i, (f i).1, (f i).2.1), (List.range m).map fun i => (dN i, tN i, (f i).2.2), (List.range (m - 1)).map fun i => (dN i, dN (i + 1), 0, some 0)⟩
theorem nodup_range {β : Type} {g : Nat → β} (h : ∀ i j, g i = g j → i = j) (n : Nat) : ((List.range n).map g).Nodup :=
  List.pairwise_map.mpr ((List.nodup_range).imp fun hne e => hne (h _ _ e))
theorem logM_tn (f : Nat → Rw) (n m : Nat) : (logM f n m).tn = (List.range n).map tN := by unfold Lg.tn logM; rw [List.map_map]; rfl
theorem logM_dn (f : Nat → Rw) (n m : Nat) : (logM f n m).dn = (List.range m).map dN := by unfold Lg.dn logM; rw [List.map_map]; rfl
theorem logM_ok {f : Nat → Rw} {n m : Nat} (hf : ∀ i, i < n → RowOk (f i)) (n1 : 1 ≤ n) (n8 : n ≤ 8) (hm : m ≤ n) : (logM f n m).Ok where
  t0 := by
    unfold logM
    intro h
    have := congrArg List.length h
    simp at this
    omega
  t8 := by unfold logM; simpa using n8
  tok := fun t ht => by
    obtain ⟨i, hi, rfl⟩ := List.mem_map.mp ht
    have hi := List.mem_range.mp hi
    obtain ⟨o1, o2, o3, o4, o5, o6⟩ := hf i hi
    exact ⟨nm_tN (by omega), by dsimp only; omega, o3, by dsimp only; omega⟩
  tu := by rw [logM_tn]; exact nodup_range (fun _ _ => tN_inj) n
  d24 := by unfold logM; simp; omega
  dok := fun t ht => by
    obtain ⟨i, hi, rfl⟩ := List.mem_map.mp ht
    have hi := List.mem_range.mp hi
    obtain ⟨o1, o2, o3, o4, o5, o6⟩ := hf i (by omega)
    exact ⟨nm_dN (by omega), by rw [logM_tn]; exact List.mem_map.mpr ⟨i, List.mem_range.mpr (by omega), rfl⟩, by dsimp only; omega, by dsimp only; omega⟩
  du := by rw [logM_dn]; exact nodup_range (fun _ _ => dN_inj) m
  l40 := by unfold logM; simp; omega
  lok := fun t ht => by
    obtain ⟨i, hi, rfl⟩ := List.mem_map.mp ht
    have hi := List.mem_range.mp hi
    refine ⟨fun e => ?_, ?_, ?_, Int.le_refl _, (by dsimp only; omega), fun m hm => ?_⟩
    · have := dN_inj e; omega
    · rw [logM_dn]; exact List.mem_map.mpr ⟨i, List.mem_range.mpr (by omega), rfl⟩
    · rw [logM_dn]; exact List.mem_map.mpr ⟨i + 1, List.mem_range.mpr (by omega), rfl⟩
    · cases hm; exact ⟨Int.le_refl _, by decide⟩
  lu := by
    unfold Lg.ends logM
    rw [List.map_map]
    exact nodup_range (fun i j e => dN_inj (congrArg Prod.fst e)) _
def rowF (rows : List Rw) (i : Nat) : Rw := rows.getD i (0, 0, 0)
theorem zip_range {β : Type} (rows : List Rw) (g : Rw → Nat → β) : (rows.zipIdx.map fun p => g p.1 p.2) = (List.range rows.length).map fun i => g (rowF rows i) i := by
  apply List.ext_getElem
  · simp
  · intro i h1 h2
    simp only [List.length_map, List.length_zipIdx] at h1
    simp [rowF, List.getD_eq_getElem?_getD, h1]
def logR (rows : List Rw) : Lg := logM (rowF rows) rows.length rows.length
theorem rowF_ok {rows : List Rw} (ok : ∀ r ∈ rows, RowOk r) {i : Nat} (h : i < rows.length) : RowOk (rowF rows i) := by
  unfold rowF
  rw [List.getD_eq_getElem?_getD, List.getElem?_eq_getElem h]
  exact ok _ (List.getElem_mem h)
theorem line_t (i : Nat) (r : Rw) : townT i r = lineT (tN i, r.1, r.2.1) := by
  have z : tl ("town t" : Str) = tl ("town" : Str) ++ (32 :: tl ("t" : Str)) := by decide +kernel
  apply of_tl
  unfold townT lineT tN
  rw [TL.join_eq, tl_join, sp_tl]
  simp only [tl_app, z, sp_tl, List.map_cons, List.map_nil, joinL, List.append_assoc, List.cons_append, List.nil_append]
theorem line_d (i : Nat) (r : Rw) : deedT i r = lineD (dN i, tN i, r.2.2) := by
  have z : tl ("deed d" : Str) = tl ("deed" : Str) ++ (32 :: tl ("d" : Str)) := by decide +kernel
  have z' : tl (" t" : Str) = 32 :: tl ("t" : Str) := by decide +kernel
  apply of_tl
  unfold deedT lineD dN tN
  rw [TL.join_eq, tl_join, sp_tl]
  simp only [tl_app, z, z', sp_tl, List.map_cons, List.map_nil, joinL, List.append_assoc, List.cons_append, List.nil_append]
theorem line_l (i : Nat) : letT i = lineL (dN i, dN (i + 1), 0, some 0) := by
  have z : tl ("letter d" : Str) = tl ("letter" : Str) ++ (32 :: tl ("d" : Str)) := by decide +kernel
  have z' : tl (" d" : Str) = 32 :: tl ("d" : Str) := by decide +kernel
  have z'' : tl (" 0 0" : Str) = 32 :: (tl (I 0) ++ (32 :: tl (I 0))) := by decide +kernel
  apply of_tl
  unfold letT lineL dN
  rw [TL.join_eq, tl_join, sp_tl]
  have e : ((i + 1 : Nat) : Int) = (i : Int) + 1 := by omega
  simp only [starT, tl_app, z, z', z'', sp_tl, List.map_cons, List.map_nil, joinL, List.append_assoc, List.cons_append, List.nil_append, e]
theorem text_is (rows : List Rw) : textT rows = textOf (logR rows) := by
  have : linesT rows = Mi.linesOf (logR rows) := by
    unfold linesT Mi.linesOf logR logM
    rw [zip_range rows (fun r i => townT i r), zip_range rows (fun r i => deedT i r), List.append_assoc]
    congr 1
    · rw [List.map_map]; apply List.map_congr_left; intro i _; exact line_t i _
    · congr 1
      · rw [List.map_map]; apply List.map_congr_left; intro i _; exact line_d i _
      · rw [List.map_map]; apply List.map_congr_left; intro i _; exact line_l i
  unfold textT textOf
  rw [this]
theorem logR_ok {rows : List Rw} (ok : ∀ r ∈ rows, RowOk r) (h1 : 1 ≤ rows.length) (h8 : rows.length ≤ 8) : (logR rows).Ok := logM_ok (fun i hi => rowF_ok ok hi) h1 h8 (Nat.le_refl _)
end Hk98
/-! text Q21 -/
set_option linter.all false
set_option maxRecDepth 100000
set_option maxHeartbeats 1000000
namespace Hk98
open PySem L2 Dl TL Mi
def srcs (f : Nat → Rw) (m : Nat) : List (Int × Int) := (List.range m).map fun i => ((f i).2.2 - (f i).2.1, (f i).2.2 - (f i).1)
theorem logM_at {f : Nat → Rw} {n m i : Nat} (ok : (logM f n m).Ok) (h : i < m) : (logM f n m).at (dN i) = tN i ∧ (logM f n m).sh (dN i) = (f i).2.2 := by
  have hd : (dN i, tN i, (f i).2.2) ∈ (logM f n m).dd := List.mem_map.mpr ⟨i, List.mem_range.mpr h, rfl⟩
  exact ⟨ok.at_ hd, ok.sh_ hd⟩
theorem tN_mem {f : Nat → Rw} {n m i : Nat} (h : i < n) : tN i ∈ clocksL (logM f n m) := List.mem_cons_of_mem _ (by rw [logM_tn]; exact List.mem_map.mpr ⟨i, List.mem_range.mpr h, rfl⟩)
/-- a course is a moment that all clocks read can have -/
theorem course_iff {f : Nat → Rw} {n m : Nat} (ok : (logM f n m).Ok) (hm : m ≤ n) (off : Str → Int) : isC (logM f n m) off = true ↔ (∀ i, i < n → (f i).1 ≤ off (tN i) ∧ off (tN i) ≤ (f i).2.1) ∧ ∀ i, i + 1 < m → (f i).2.2 - off (tN i) = (f (i + 1)).2.2 - off (tN (i + 1)) := by
  unfold isC
  simp only [Bool.and_eq_true, List.all_eq_true, decide_eq_true_eq]
  constructor
  · rintro ⟨h1, h2⟩
    refine ⟨fun i hi => h1 (tN i, (f i).1, (f i).2.1) (List.mem_map.mpr ⟨i, List.mem_range.mpr hi, rfl⟩), fun i hi => ?_⟩
    have h3 := h2 (dN i, dN (i + 1), 0, some 0) (List.mem_map.mpr ⟨i, List.mem_range.mpr (by omega), rfl⟩)
    unfold letOk took at h3
    simp only [Bool.and_eq_true, decide_eq_true_eq] at h3
    obtain ⟨a1, a2⟩ := logM_at ok (i := i) (by omega)
    obtain ⟨b1, b2⟩ := logM_at ok (i := i + 1) (by omega)
    rw [a1, a2, b1, b2] at h3
    omega
  · rintro ⟨h1, h2⟩
    refine ⟨fun t ht => ?_, fun l hl => ?_⟩
    · obtain ⟨i, hi, rfl⟩ := List.mem_map.mp ht
      exact h1 i (List.mem_range.mp hi)
    · obtain ⟨i, hi, rfl⟩ := List.mem_map.mp hl
      have hi := List.mem_range.mp hi
      have h3 := h2 i (by omega)
      unfold letOk took
      simp only [Bool.and_eq_true, decide_eq_true_eq]
      obtain ⟨a1, a2⟩ := logM_at ok (i := i) (by omega)
      obtain ⟨b1, b2⟩ := logM_at ok (i := i + 1) (by omega)
      rw [a1, a2, b1, b2]
      omega
theorem same_time {f : Nat → Rw} {off : Str → Int} {m : Nat} (h : ∀ i, i + 1 < m → (f i).2.2 - off (tN i) = (f (i + 1)).2.2 - off (tN (i + 1))) : ∀ i, i < m → (f i).2.2 - off (tN i) = (f 0).2.2 - off (tN 0)
  | 0, _ => rfl
  | i + 1, hi => by rw [← h i hi]; exact same_time h i (by omega)
theorem ends_of {f : Nat → Rw} {m : Nat} {L H : Int} (e : Ends (srcs f m) L H) : (∀ i, i < m → (f i).2.2 - (f i).2.1 ≤ L ∧ H ≤ (f i).2.2 - (f i).1) ∧ (∃ i, i < m ∧ (f i).2.2 - (f i).2.1 = L) ∧ ∃ i, i < m ∧ (f i).2.2 - (f i).1 = H := by
  refine ⟨fun i hi => ?_, ?_, ?_⟩
  · have : ((f i).2.2 - (f i).2.1, (f i).2.2 - (f i).1) ∈ srcs f m := List.mem_map.mpr ⟨i, List.mem_range.mpr hi, rfl⟩
    exact ⟨e.l1 _ this, e.h1 _ this⟩
  · obtain ⟨p, hp, q⟩ := e.l2
    obtain ⟨i, hi, rfl⟩ := List.mem_map.mp hp
    exact ⟨i, List.mem_range.mp hi, q⟩
  · obtain ⟨p, hp, q⟩ := e.h2
    obtain ⟨i, hi, rfl⟩ := List.mem_map.mp hp
    exact ⟨i, List.mem_range.mp hi, q⟩
def tI (n : Nat) (c : Str) : Nat := ((List.range n).find? fun i => decide (tN i = c)).getD n
theorem tI_is {n i : Nat} (h : i < n) : tI n (tN i) = i := by
  unfold tI
  cases e : (List.range n).find? fun j => decide (tN j = tN i) with
  | none =>
    have := List.find?_eq_none.mp e i (List.mem_range.mpr h)
    simp at this
  | some j =>
    have := List.find?_some e
    exact tN_inj (of_decide_eq_true this)
/-- the course of a moment -/
def momO (f : Nat → Rw) (n m : Nat) (T : Int) (c : Str) : Int := if tI n c < m then (f (tI n c)).2.2 - T else (f (tI n c)).1
theorem mom_is {f : Nat → Rw} {n m : Nat} (T : Int) {i : Nat} (hi : i < n) : momO f n m T (tN i) = if i < m then (f i).2.2 - T else (f i).1 := by unfold momO; rw [tI_is hi]
theorem mom_course {f : Nat → Rw} {n m : Nat} (hf : ∀ i, i < n → RowOk (f i)) (ok : (logM f n m).Ok) (hm : m ≤ n) {L H T : Int} (e : Ends (srcs f m) L H) (h1 : L ≤ T) (h2 : T ≤ H) : isC (logM f n m) (momO f n m T) = true := by
  obtain ⟨e1, _, _⟩ := ends_of e
  rw [course_iff ok hm]
  refine ⟨fun i hi => ?_, fun i hi => ?_⟩
  · rw [mom_is T hi]
    obtain ⟨o1, o2, o3, o4, o5, o6⟩ := hf i hi
    split
    · rename_i q
      have := e1 i q
      omega
    · omega
  · rw [mom_is T (by omega), mom_is T (by omega), if_pos (by omega), if_pos hi]
    omega
theorem mom_of {f : Nat → Rw} {n m : Nat} (ok : (logM f n m).Ok) (hm : m ≤ n) (m1 : 1 ≤ m) {L H : Int} (e : Ends (srcs f m) L H) {off : Str → Int} (hc : isC (logM f n m) off = true) : ∃ T, L ≤ T ∧ T ≤ H ∧ ∀ i, i < m → (f i).2.2 - off (tN i) = T := by
  rw [course_iff ok hm] at hc
  obtain ⟨h1, h2⟩ := hc
  obtain ⟨_, ⟨i, hi, e2⟩, ⟨j, hj, e3⟩⟩ := ends_of e
  refine ⟨(f 0).2.2 - off (tN 0), ?_, ?_, same_time h2⟩
  · rw [← same_time h2 i hi, ← e2]
    have := h1 i (by omega); omega
  · rw [← same_time h2 j hj, ← e3]
    have := h1 j (by omega); omega
theorem fits_iff {f : Nat → Rw} {n m : Nat} (hf : ∀ i, i < n → RowOk (f i)) (ok : (logM f n m).Ok) (hm : m ≤ n) (m1 : 1 ≤ m) {L H : Int} (e : Ends (srcs f m) L H) : Fits (logM f n m) ↔ L ≤ H := by
  constructor
  · rintro ⟨p, hp⟩
    obtain ⟨T, h1, h2, _⟩ := mom_of ok hm m1 e (course_of_pot ok hp)
    omega
  · intro h
    exact ⟨_, pot_of_course ok (mom_course hf ok hm e (Int.le_refl _) h)⟩
/-- the span of each deed read -/
theorem span_is {f : Nat → Rw} {n m : Nat} (hf : ∀ i, i < n → RowOk (f i)) (ok : (logM f n m).Ok) (hm : m ≤ n) (m1 : 1 ≤ m) {L H : Int} (e : Ends (srcs f m) L H) (hLH : L ≤ H) {i : Nat} (hi : i < m) :
    (logM f n m).sh (dN i) + (logM f n m).G ((logM f n m).at (dN i)) "." = L ∧ (logM f n m).sh (dN i) - (logM f n m).G "." ((logM f n m).at (dN i)) = H := by
  have hfit : Fits (logM f n m) := (fits_iff hf ok hm m1 e).mpr hLH
  obtain ⟨a1, a2⟩ := logM_at ok hi
  rw [a1, a2]
  have ct : tN i ∈ clocksL (logM f n m) := tN_mem (by omega)
  have cd := dot_clock (logM f n m)
  have nd : tN i ≠ ("." : Str) := dot_ne ok (by rw [logM_tn]; exact List.mem_map.mpr ⟨i, List.mem_range.mpr (by omega), rfl⟩)
  have pT : ∀ T, L ≤ T → T ≤ H → (logM f n m).G (tN i) "." ≤ T - (f i).2.2 ∧ (logM f n m).G "." (tN i) ≤ (f i).2.2 - T := fun T h1 h2 => by
    have hp := pot_of_course ok (mom_course hf ok hm e h1 h2)
    have q1 := G_le ok hp ct cd
    have q2 := G_le ok hp cd ct
    have v1 : offP (momO f n m T) "." = 0 := if_pos rfl
    have v2 : offP (momO f n m T) (tN i) = (f i).2.2 - T := by
      unfold offP
      rw [if_neg nd, mom_is T (by omega), if_pos hi]
    rw [v1, v2] at q1 q2
    omega
  obtain ⟨u1, _⟩ := pT L (Int.le_refl _) hLH
  obtain ⟨_, u2⟩ := pT H hLH (Int.le_refl _)
  obtain ⟨T1, x1, x2, x3⟩ := mom_of ok hm m1 e (course_of_pot ok (G_pot ok hfit ct))
  obtain ⟨T2, y1, y2, y3⟩ := mom_of ok hm m1 e (course_of_pot ok (G_pot ok hfit cd))
  have x4 := x3 i hi
  have y4 := y3 i hi
  rw [G_self ok hfit ct] at x4
  rw [G_self ok hfit cd] at y4
  omega
theorem srcs_len (f : Nat → Rw) (m : Nat) : (srcs f m).length = m := by unfold srcs; simp
theorem srcs_ok {f : Nat → Rw} {m : Nat} (hf : ∀ i, i < m → RowOk (f i)) (m1 : 1 ≤ m) (m8 : m ≤ 8) : Src (srcs f m) where
  ne := by intro h; have := congrArg List.length h; rw [srcs_len] at this; simp at this; omega
  le := by rw [srcs_len]; omega
  ok := fun p hp => by
    obtain ⟨i, hi, rfl⟩ := List.mem_map.mp hp
    obtain ⟨o1, o2, o3, o4, o5, o6⟩ := hf i (List.mem_range.mp hi)
    dsimp only
    omega
theorem max_ex : ∀ {l : List Int}, l ≠ [] → ∃ m ∈ l, ∀ x ∈ l, x ≤ m := fun {l} h => by
  obtain ⟨m, hm⟩ := maxL_ne h
  obtain ⟨h1, h2⟩ := maxL_some hm
  exact ⟨m, h1, h2⟩
theorem ends_ex {l : List (Int × Int)} (h : l ≠ []) : ∃ L H, Ends l L H := by
  obtain ⟨L, h1, h2⟩ := max_ex (l := l.map (·.1)) (by simpa using h)
  obtain ⟨H, h3, h4⟩ := max_ex (l := l.map fun p => -p.2) (by simpa using h)
  obtain ⟨p, hp, rfl⟩ := List.mem_map.mp h1
  obtain ⟨q, hq, rfl⟩ := List.mem_map.mp h3
  refine ⟨p.1, q.2, ⟨fun r hr => h2 _ (List.mem_map_of_mem hr), ⟨p, hp, rfl⟩, fun r hr => ?_, ⟨q, hq, rfl⟩⟩⟩
  have := h4 (-r.2) (List.mem_map.mpr ⟨r, hr, rfl⟩)
  omega
/-- without the last deed read -/
theorem less_last (f : Nat → Rw) (n m : Nat) (h : 1 ≤ m) : (logM f n (m + 1)).less [dN m] = logM f n m := by
  have ne : ∀ i, i < m → dN i ≠ dN m := fun i hi e => by have := dN_inj e; omega
  unfold Lg.less logM
  congr 1
  · rw [List.range_succ, List.map_append, List.filter_append]
    have e1 : List.filter (fun d : Dd => decide (d.1 ∉ [dN m])) ((List.range m).map fun i => (dN i, tN i, (f i).2.2)) = (List.range m).map fun i => (dN i, tN i, (f i).2.2) := by
      rw [List.filter_eq_self]
      intro d hd
      obtain ⟨i, hi, rfl⟩ := List.mem_map.mp hd
      have := ne i (List.mem_range.mp hi)
      simp [this]
    have e2 : List.filter (fun d : Dd => decide (d.1 ∉ [dN m])) ([m].map fun i => (dN i, tN i, (f i).2.2)) = [] := by simp
    rw [e1, e2, List.append_nil]
  · obtain ⟨k, rfl⟩ : ∃ k, m = k + 1 := ⟨m - 1, by omega⟩
    show List.filter _ ((List.range (k + 1)).map _) = (List.range k).map _
    rw [List.range_succ, List.map_append, List.filter_append]
    have e1 : List.filter (fun l : Lt => decide (l.1 ∉ [dN (k + 1)] ∧ l.2.1 ∉ [dN (k + 1)])) ((List.range k).map fun i => (dN i, dN (i + 1), (0 : Int), some (0 : Int))) = (List.range k).map fun i => (dN i, dN (i + 1), 0, some 0) := by
      rw [List.filter_eq_self]
      intro d hd
      obtain ⟨i, hi, rfl⟩ := List.mem_map.mp hd
      have hi := List.mem_range.mp hi
      have a := ne i (by omega)
      have b := ne (i + 1) (by omega)
      simp [a, b]
    have e2 : List.filter (fun l : Lt => decide (l.1 ∉ [dN (k + 1)] ∧ l.2.1 ∉ [dN (k + 1)])) ([k].map fun i => (dN i, dN (i + 1), (0 : Int), some (0 : Int))) = [] := by simp
    rw [e1, e2, List.append_nil]
end Hk98
/-! text Q22 -/
set_option linter.all false
set_option maxRecDepth 100000
set_option maxHeartbeats 1000000
namespace Hk98
open PySem L2 Dl TL Mi
mutual
theorem eqvD_self : ∀ {d : D} {n : Nat}, okD n d = true → eqvD d d = true
  | .non, _, _ => rfl
  | .bl b, _, _ => by unfold eqvD; simp
  | .int i, _, _ => by unfold eqvD; simp
  | .str x, _, _ => by unfold eqvD; simp
  | .tup l, n, h => by
    obtain ⟨h1, h2⟩ := Bool.and_eq_true_iff.mp (show (decide (0 < n) && okDs (n - 1) l) = true from h)
    unfold eqvD
    exact eqvDs_self h2
  | .lst l, n, h => by
    obtain ⟨h1, h2⟩ := Bool.and_eq_true_iff.mp (show (decide (0 < n) && okDs (n - 1) l) = true from h)
    unfold eqvD
    exact eqvDs_self h2
  | .ty _, _, h => nomatch h
  | .fl _, _, h => nomatch h
  | .dk _, _, h => nomatch h
  | .dt _, _, h => nomatch h
  | .obj _ _, _, h => nomatch h
theorem eqvDs_self : ∀ {l : List D} {n : Nat}, okDs n l = true → eqvDs l l = true
  | [], _, _ => rfl
  | d :: r, n, h => by
    obtain ⟨h1, h2⟩ := Bool.and_eq_true_iff.mp (show (okD n d && okDs n r) = true from h)
    unfold eqvDs
    rw [eqvD_self h1, eqvDs_self h2]; rfl
end
theorem eq_self {d : D} (h : okD 60 d = true) (neg : Bool) : eqD neg d d = some (.bl !neg) := by
  rw [eqD_ok h h, eqvD_self h]
  cases neg <;> rfl
theorem eqB (neg a b : Bool) : eqD neg (.bl a) (.bl b) = some (.bl (if neg then !(a == b) else (a == b))) := by
  rw [eqD_ok rfl rfl]
  unfold eqvD; rfl
theorem w_spans : PyData.canLay0 (.str ("spans" : Str)) = true ∧ PyData.canLay0 (.str ("more" : Str)) = true ∧ PyData.canLay0 (.str ("course" : Str)) = true ∧ PyData.canLay0 (.str ("ring" : Str)) = true := by decide +kernel
theorem ss1 : eqD false (.str ("spans" : Str)) (.str ("spans" : Str)) = some (.bl true) := eqS_self w_spans.1
theorem ss2 : eqD false (.str ("more" : Str)) (.str ("spans" : Str)) = some (.bl false) := eqS_ne w_spans.2.1 w_spans.1 (by decide +kernel)
theorem ss3 : eqD false (.str ("course" : Str)) (.str ("course" : Str)) = some (.bl true) := eqS_self w_spans.2.2.1
theorem ss4 : eqD false (.str ("ring" : Str)) (.str ("course" : Str)) = some (.bl false) := eqS_ne w_spans.2.2.2 w_spans.2.2.1 (by decide +kernel)
theorem ss5 : eqD false (.str ("more" : Str)) (.str ("more" : Str)) = some (.bl true) := eqS_self w_spans.2.1
theorem ss6 : eqD false (.str ("spans" : Str)) (.str ("more" : Str)) = some (.bl false) := eqS_ne w_spans.1 w_spans.2.1 (by decide +kernel)
theorem p_truth_yes {l : List (Int × Int)} {L H : Int} (h : Src l) (e : Ends l L H) (hn : L ≤ H) : m_truth_spans [.tup (l.map srcD), .int 0] = some (.sh (.tup [.str "spans", .tup [srcD (L, H)]])) := by
  have hl : (0 : Int) < l.length := by have : 0 < l.length := List.length_pos_iff.mpr h.ne; omega
  rw [p_truth_spans l h (most_yes e hn) 0 (Int.le_refl _) hl]
  unfold couldD
  rw [if_neg (by omega), Int.sub_zero, agr_yes e hn]
  rfl
theorem p_truth_no {l : List (Int × Int)} {L H : Int} (h : Src l) (e : Ends l L H) (hn : H < L) : ∃ k, m_truth_spans [.tup (l.map srcD), .int 0] = some (.sh (.tup [.str "more", .int k])) := by
  have hl : (0 : Int) < l.length := by have : 0 < l.length := List.length_pos_iff.mpr h.ne; omega
  obtain ⟨m, hm, hm2⟩ := most_no h e hn
  rw [p_truth_spans l h hm 0 (Int.le_refl _) hl]
  unfold couldD
  rw [if_pos (by omega)]
  exact ⟨_, rfl⟩
def sr (rows : List Rw) : List (Int × Int) := rows.map fun r => (r.2.2 - r.2.1, r.2.2 - r.1)
theorem map_range {β : Type} (rows : List Rw) (g : Rw → β) : rows.map g = (List.range rows.length).map fun i => g (rowF rows i) := by
  apply List.ext_getElem
  · simp
  · intro i h1 h2
    simp only [List.length_map] at h1
    simp [rowF, List.getD_eq_getElem?_getD, h1]
theorem sr_is (rows : List Rw) : sr rows = srcs (rowF rows) rows.length := map_range rows _
/-- the fit of a log of rows, beside its sources -/
theorem fit_rows {rows : List Rw} (ok : ∀ r ∈ rows, RowOk r) (h1 : 1 ≤ rows.length) (h8 : rows.length ≤ 8) {L H : Int} (e : Ends (sr rows) L H) : Fits (logR rows) ↔ L ≤ H := by
  rw [sr_is] at e
  exact fits_iff (fun i hi => rowF_ok ok hi) (logR_ok ok h1 h8) (Nat.le_refl _) h1 e
theorem sr_ok {rows : List Rw} (ok : ∀ r ∈ rows, RowOk r) (h1 : 1 ≤ rows.length) (h8 : rows.length ≤ 8) : Src (sr rows) := by
  rw [sr_is]; exact srcs_ok (fun i hi => rowF_ok ok hi) h1 h8
/-- Log(_law_text(rows)) -/
theorem mk_rows {rows : List Rw} (ok : ∀ r ∈ rows, RowOk r) (h1 : 1 ≤ rows.length) (h8 : rows.length ≤ 8) {g : DE} {ρ ρ1 : List W} (hg : g ρ = some (.lst (rows.map rowD), ρ1)) :
    makeE "Log" 2 m_Log__init_ (consL (frE (callP 1 m__law_text (consL g nilL))) nilL) ρ = some (logO (logR rows), ρ1) := by
  refine mk_Log (logR_ok ok h1 h8) ?_
  have e := p_text rows ok h1 (by omega)
  rw [text_is] at e
  simp [hg, e]
theorem max_is {l : List (Int × Int)} {L H : Int} (e : Ends l L H) : maxD (.lst ((l.map (·.1)).map D.int)) = some (.int L) := by
  have k : maxL (l.map (·.1)) = some L := maxL_is (by obtain ⟨p, h1, h2⟩ := e.l2; exact List.mem_map.mpr ⟨p, h1, h2⟩) fun x hx => by
    obtain ⟨p, h1, rfl⟩ := List.mem_map.mp hx
    exact e.l1 p h1
  have i : lintsD (.lst ((l.map (·.1)).map D.int)) = some (l.map (·.1)) := ints_of _
  unfold maxD
  rw [i]
  dsimp only
  rw [k]; rfl
theorem fmin : ∀ (r : List Int) (i : Int), (r.foldl min i = i ∨ r.foldl min i ∈ r) ∧ r.foldl min i ≤ i ∧ ∀ y ∈ r, r.foldl min i ≤ y
  | [], i => ⟨.inl rfl, Int.le_refl _, fun _ h => nomatch h⟩
  | j :: r, i => by
    obtain ⟨h1, h2, h3⟩ := fmin r (min i j)
    rw [List.foldl_cons]
    refine ⟨?_, by omega, fun y hy => ?_⟩
    · rcases h1 with h1 | h1
      · rw [h1]
        rcases Int.le_total i j with q | q
        · left; omega
        · right; rw [Int.min_eq_right q]; exact List.mem_cons_self
      · exact .inr (List.mem_cons_of_mem _ h1)
    · rcases List.mem_cons.mp hy with z | z
      · subst z; omega
      · exact h3 y z
theorem minL_some {l : List Int} {m : Int} (h : minL l = some m) : m ∈ l ∧ ∀ x ∈ l, m ≤ x := by
  cases l with
  | nil => cases h
  | cons i r =>
    obtain ⟨h1, h2, h3⟩ := fmin r i
    cases h
    refine ⟨?_, fun x hx => ?_⟩
    · rcases h1 with h1 | h1
      · rw [h1]; exact List.mem_cons_self
      · exact List.mem_cons_of_mem _ h1
    · rcases List.mem_cons.mp hx with z | z
      · subst z; exact h2
      · exact h3 x z
theorem minL_is {l : List Int} {m : Int} (h1 : m ∈ l) (h2 : ∀ x ∈ l, m ≤ x) : minL l = some m := by
  cases e : minL l with
  | none => cases l with
    | nil => cases h1
    | cons => cases e
  | some k =>
    obtain ⟨a, b⟩ := minL_some e
    congr 1
    have := b m h1; have := h2 k a
    omega
theorem min_is {l : List (Int × Int)} {L H : Int} (e : Ends l L H) : minD (.lst ((l.map (·.2)).map D.int)) = some (.int H) := by
  have k : minL (l.map (·.2)) = some H := minL_is (by obtain ⟨p, h1, h2⟩ := e.h2; exact List.mem_map.mpr ⟨p, h1, h2⟩) fun x hx => by
    obtain ⟨p, h1, rfl⟩ := List.mem_map.mp hx
    exact e.h1 p h1
  have i : lintsD (.lst ((l.map (·.2)).map D.int)) = some (l.map (·.2)) := ints_of _
  unfold minD
  rw [i]
  dsimp only
  rw [k]; rfl
theorem p_best {l : List (Int × Int)} {L H : Int} (h : Src l) (e : Ends l L H) : ∃ m r, m_best_agreed [.tup (l.map srcD)] = some (.sh (.tup [.int m, r])) ∧ (m = l.length ↔ L ≤ H) := by
  by_cases hn : L ≤ H
  · exact ⟨_, _, p_best_agreed l h (most_yes e hn), iff_of_true rfl hn⟩
  · obtain ⟨m, hm, hm2⟩ := most_no h e (by omega)
    exact ⟨_, _, p_best_agreed l h hm, iff_of_false (by omega) hn⟩
theorem p_trim {l : List (Int × Int)} {L H : Int} (h : Src l) (e : Ends l L H) : m_trimmed [.tup (l.map srcD), .int 0] = some (.sh (srcD (L, H))) := p_trimmed l h L H (sort_last h.ne e) (sort_first h.ne e)
theorem p_hull_yes {l : List (Int × Int)} {L H : Int} (h : Src l) (e : Ends l L H) (hn : L ≤ H) : m_hull [.tup (l.map srcD), .int 0] = some (.sh (srcD (L, H))) := by
  have hl : (0 : Int) < l.length := by have : 0 < l.length := List.length_pos_iff.mpr h.ne; omega
  have a := agr_yes e hn
  exact p_hull l h (most_yes e hn) 0 (Int.le_refl _) hl (by omega) (a := (L, H)) (b := (L, H)) (by rw [Int.sub_zero, a]; rfl) (by rw [Int.sub_zero, a]; rfl)
theorem p_agr_yes {l : List (Int × Int)} {L H : Int} (h : Src l) (e : Ends l L H) (hn : L ≤ H) : m_agreed [.tup (l.map srcD), .int l.length] = some (.sh (.tup [srcD (L, H)])) := by
  have hl : (0 : Int) < l.length := by have : 0 < l.length := List.length_pos_iff.mpr h.ne; omega
  rw [p_agreed l h l.length (by omega) (Int.le_refl _), agr_yes e hn]
  rfl
theorem p_wrong_no {l : List (Int × Int)} {L H : Int} (h : Src l) (e : Ends l L H) (hn : L ≤ H) : m_surely_wrong [.tup (l.map srcD), .int 0] = some (.sh (.tup [])) := by
  have hl : (0 : Int) < l.length := by have : 0 < l.length := List.length_pos_iff.mpr h.ne; omega
  exact p_surely_wrong l h (most_yes e hn) 0 (Int.le_refl _) hl (by omega) (q := (L, H)) (by rw [Int.sub_zero]; exact agr_yes e hn) fun p hp => by
    have := e.l1 p hp; have := e.h1 p hp; dsimp only; omega
theorem hav_all {l : List (Int × Int)} {L H T : Int} (e : Ends l L H) (h1 : L ≤ T) (h2 : T ≤ H) : havL l T = List.range l.length := by
  have : ∀ (l : List (Int × Int)) (k : Nat), (∀ p ∈ l, p.1 ≤ T ∧ T ≤ p.2) → (l.zipIdx k).filterMap (fun p => if p.1.1 ≤ T ∧ T ≤ p.1.2 then some p.2 else none) = List.range' k l.length := by
    intro l
    induction l with
    | nil => intro k _; rfl
    | cons x r ih =>
      intro k h
      rw [List.zipIdx_cons, List.filterMap_cons]
      have := h x List.mem_cons_self
      rw [if_pos this]
      dsimp only
      rw [ih (k + 1) fun p hp => h p (List.mem_cons_of_mem _ hp), List.length_cons, List.range'_succ]
  unfold havL
  rw [this l 0 fun p hp => by have := e.l1 p hp; have := e.h1 p hp; omega, List.range_eq_range']
end Hk98
/-! text Q23 -/
set_option linter.all false
set_option maxRecDepth 100000
set_option maxHeartbeats 1000000
namespace Hk98
open PySem L2 Dl TL Mi
abbrev U : W := W.un
abbrev Wd (d : D) : W := W.w false (.sh d)
abbrev stq (o : O) (n : Int) (r2 : W) (w : Int) (x y : W) (r : List W) : List W := W.w true o :: Wd (.int n) :: r2 :: Wd (.int w) :: x :: y :: r
abbrev rowsD (rows : List Rw) : D := .lst (rows.map rowD)
abbrev srD (rows : List Rw) : D := .tup ((sr rows).map srcD)
theorem r3 {rows : List Rw} (ok : ∀ r ∈ rows, RowOk r) (h1 : 1 ≤ rows.length) (h8 : rows.length ≤ 8) (o : O) (n w : Int) (x y : W) :
    h__law_right_3 (stq o n (W.w false (.ol (rows.map rowD))) w x y [U, U, U, U, U, U, U, U, U, U, U, U, U]) = some (.nx (stq o n (Wd (rowsD rows)) w x y [Wd (logD (logR rows)), U, U, U, U, U, U, U, U, U, U, U, U])) := by
  have e := mk_rows ok h1 h8 (g := vF 2) (ρ := stq o n (W.w false (.ol (rows.map rowD))) w x y [U, U, U, U, U, U, U, U, U, U, U, U, U]) (ρ1 := stq o n (Wd (rowsD rows)) w x y [U, U, U, U, U, U, U, U, U, U, U, U, U]) (by simp)
  show asgS 6 _ _ = _
  rw [ev_asg, ev_sh, ev_fr, e]
  simp [logO_frz]
theorem r4 {rows : List Rw} (h8 : rows.length ≤ 8) (o : O) (n w : Int) (x y : W) (a : W) :
    h__law_right_4 (stq o n (Wd (rowsD rows)) w x y [a, U, U, U, U, U, U, U, U, U, U, U, U]) = some (.nx (stq o n (Wd (rowsD rows)) w x y [a, Wd (srD rows), U, U, U, U, U, U, U, U, U, U, U])) := by
  have e : lcE [5, 8, 9] (itE seqS' (vF 2)) (bT 3 (bCons (bN 5) (bCons (bN 8) (bCons (bN 9) bNil)))) yesB (tupE (consL (op2 subI (vE 9) (vE 8)) (consL (op2 subI (vE 9) (vE 5)) nilL))) (stq o n (Wd (rowsD rows)) w x y [a, U, U, U, U, U, U, U, U, U, U, U, U]) = some (.ol ((sr rows).map srcD), stq o n (Wd (rowsD rows)) w x y [a, U, U, U, U, U, U, U, U, U, U, U, U]) := by
    rw [lcE_map (xs := rows) (enc := rowD) (F := fun r => srcD (r.2.2 - r.2.1, r.2.2 - r.1)) (ρ1 := stq o n (Wd (rowsD rows)) w x y [a, U, U, U, U, U, U, U, U, U, U, U, U]) (by simp [seqS', seqD]) (decide_eq_true (by omega)) fun r _ => ?_]
    · unfold sr; rw [List.map_map]; rfl
    · exact ⟨stq o n (Wd (rowsD rows)) w x (Wd (.int r.1)) [a, U, Wd (.int r.2.1), Wd (.int r.2.2), U, U, U, U, U, U, U, U, U], stq o n (Wd (rowsD rows)) w x (Wd (.int r.1)) [a, U, Wd (.int r.2.1), Wd (.int r.2.2), U, U, U, U, U, U, U, U, U], rfl, by simp [small, srcD], rfl⟩
  show asgS 7 _ _ = _
  simp only [ev_asg, ev_sh, ev_fr, ev_callB, ev_cons, e, Option.map_some, frz_ol, ev_nil, ev_sh1, tupleD, frz_sh]
  simp
theorem r5 {rows : List Rw} {t f : D} (o : O) (n w : Int) (r2 x y : W) (lg : D) (ht : m_truth_spans [srD rows, .int 0] = some (.sh t)) (hf : m_fitting [lg] = some (.sh f)) :
    h__law_right_5 (stq o n r2 w x y [Wd lg, Wd (srD rows), U, U, U, U, U, U, U, U, U, U, U]) = some (.nx (stq o n r2 w x y [Wd lg, Wd (srD rows), U, U, Wd t, Wd f, U, U, U, U, U, U, U])) := by
  show parO 10 11 _ _ = _
  simp [ht, hf]
theorem r7 {rows : List Rw} {L H : Int} (e : Ends (sr rows) L H) (h8 : rows.length ≤ 8) (o : O) (n w : Int) (r2 x y : W) (uy : UW y) (lg t f : D) :
    h__law_right_7 (stq o n r2 w x y [Wd lg, Wd (srD rows), U, U, Wd t, Wd f, U, U, U, U, U, U, U]) = some (.nx (stq o n r2 w x (Wd (.int L)) [Wd lg, Wd (srD rows), Wd (.int H), U, Wd t, Wd f, U, U, U, U, U, U, U])) := by
  have sl : (sr rows).length ≤ 8 := by unfold sr; rw [List.length_map]; exact h8
  have e1 : lcE [12] (itE seqS' (vE 7)) (bN 12) yesB (op2 subD (vE 12) (cE (.int 0))) (stq o n r2 w x y [Wd lg, Wd (srD rows), U, U, Wd t, Wd f, U, U, U, U, U, U, U]) = some (.ol (((sr rows).map (·.1)).map D.int), stq o n r2 w x y [Wd lg, Wd (srD rows), U, U, Wd t, Wd f, U, U, U, U, U, U, U]) := by
    rw [lcE_map (xs := sr rows) (enc := srcD) (F := fun p => .int p.1) (ρ1 := stq o n r2 w x y [Wd lg, Wd (srD rows), U, U, Wd t, Wd f, U, U, U, U, U, U, U]) (by simp [seqS', seqD]) (decide_eq_true (by omega)) fun p _ => ?_]
    · rw [List.map_map]; rfl
    · exact ⟨stq o n r2 w x y [Wd lg, Wd (srD rows), U, U, Wd t, Wd f, Wd (srcD p), U, U, U, U, U, U], stq o n r2 w x y [Wd lg, Wd (srD rows), U, U, Wd t, Wd f, Wd (srcD p), U, U, U, U, U, U], rfl, by simp [sub0], rfl⟩
  have e2 : lcE [12] (itE seqS' (vE 7)) (bN 12) yesB (op2 subD (vE 12) (cE (.int 1))) (stq o n r2 w x y [Wd lg, Wd (srD rows), U, U, Wd t, Wd f, U, U, U, U, U, U, U]) = some (.ol (((sr rows).map (·.2)).map D.int), stq o n r2 w x y [Wd lg, Wd (srD rows), U, U, Wd t, Wd f, U, U, U, U, U, U, U]) := by
    rw [lcE_map (xs := sr rows) (enc := srcD) (F := fun p => .int p.2) (ρ1 := stq o n r2 w x y [Wd lg, Wd (srD rows), U, U, Wd t, Wd f, U, U, U, U, U, U, U]) (by simp [seqS', seqD]) (decide_eq_true (by omega)) fun p _ => ?_]
    · rw [List.map_map]; rfl
    · exact ⟨stq o n r2 w x y [Wd lg, Wd (srD rows), U, U, Wd t, Wd f, Wd (srcD p), U, U, U, U, U, U], stq o n r2 w x y [Wd lg, Wd (srD rows), U, U, Wd t, Wd f, Wd (srcD p), U, U, U, U, U, U], rfl, by simp [sub1], rfl⟩
  have m1 := max_is e
  have m2 := min_is e
  show asG _ _ _ = _
  simp only [ev_asG, ev_tup, ev_cons, ev_fr, ev_callB, e1, e2, Option.map_some, frz_ol, ev_nil, ev_sh1, m1, m2, frz_sh]
  simp [small, uy]
theorem r8 {rows : List Rw} {L H : Int} (sk : Src (sr rows)) (e : Ends (sr rows) L H) (o : O) (n w : Int) (r2 x : W) (lg f : D) {t0 : Str} {tr : List D} (ht : eqD false (.str t0) (.str ("spans" : Str)) = some (.bl (decide (L ≤ H)))) :
    h__law_right_8 (stq o n r2 w x (Wd (.int L)) [Wd lg, Wd (srD rows), Wd (.int H), U, Wd (.tup (.str t0 :: tr)), Wd f, U, U, U, U, U, U, U]) = some (.nx (stq o n r2 w x (Wd (.int L)) [Wd lg, Wd (srD rows), Wd (.int H), U, Wd (.tup (.str t0 :: tr)), Wd f, U, U, U, U, U, U, U])) := by
  have q := p_trim sk e
  have q2 : eqD true (srcD (L, H)) (.tup [.int L, .int H]) = some (.bl false) := eq_self (d := srcD (L, H)) rfl true
  show ifS _ _ _ _ = _
  simp [ht, eqB, q, small, q2]
theorem r9 {rows : List Rw} {L H : Int} (sk : Src (sr rows)) (e : Ends (sr rows) L H) (o : O) (n w : Int) (hn : n = rows.length) (r2 x : W) (a b c : W) :
    h__law_right_9 (stq o n r2 w x (Wd (.int L)) [a, Wd (srD rows), Wd (.int H), U, b, c, U, U, U, U, U, U, U]) = some (.nx (stq o n r2 w x (Wd (.int L)) [a, Wd (srD rows), Wd (.int H), U, b, c, U, U, U, U, U, U, U])) := by
  obtain ⟨m, r, q1, q2⟩ := p_best sk e
  have hl : (sr rows).length = rows.length := by unfold sr; rw [List.length_map]
  rw [hl] at q2
  have q3 : (m == n) = decide (L ≤ H) := by
    rw [hn]
    by_cases z : L ≤ H
    · rw [decide_eq_true z, q2.mpr z]; simp
    · rw [decide_eq_false z]
      have : m ≠ (rows.length : Int) := fun y => z (q2.mp y)
      simpa using this
  show ifS _ _ _ _ = _
  simp [q1, q3, eqB]
end Hk98
/-! text Q24 -/
set_option linter.all false
set_option maxRecDepth 100000
set_option maxHeartbeats 1000000
namespace Hk98
open PySem L2 Dl TL Mi
theorem cut_take {l : List D} {k : Nat} (h : k ≤ l.length) : cutD l none (some (k : Int)) = l.take k := by
  unfold cutD
  rw [HT.sIx_none, HT.sIx_nat, Nat.min_eq_left h]
  simp
theorem cut_drop {l : List D} {k : Nat} (h : k ≤ l.length) : cutD l (some (k : Int)) none = l.drop k := by
  unfold cutD
  rw [HT.sIx_none, HT.sIx_nat, Nat.min_eq_left h]
  apply List.take_of_length_le
  rw [List.length_drop]
  exact Nat.le_refl _
theorem cut_last {l : List D} (h : l ≠ []) : cutD l none (some (-1)) = l.dropLast := by
  have hl : 0 < l.length := List.length_pos_iff.mpr h
  have e : HT.sIx l.length l.length (some (-1)) = l.length - 1 := by
    show (if (-1 : Int) < 0 then ((-1) + (l.length : Int)).toNat else min (-1 : Int).toNat l.length) = _
    rw [if_pos (by decide)]; omega
  unfold cutD
  rw [HT.sIx_none, e, List.dropLast_eq_take]
  simp
def rest (rows : List Rw) (k : Nat) : List Rw := rows.take k ++ rows.drop (k + 1)
theorem sr_rest (rows : List Rw) (i : Nat) : (sr rows).take i ++ (sr rows).drop (i + 1) = sr (rest rows i) := by
  unfold sr rest
  rw [List.map_append, List.map_take, List.map_drop]
theorem keep_but {X Y : Type} (g : X → Y) : ∀ (l : List X) (j k : Nat), ((l.zipIdx j).filterMap fun p => if decide (p.2 ≠ j + k) = true then some (g p.1) else none) = (l.take k ++ l.drop (k + 1)).map g
  | [], j, k => by simp
  | x :: r, j, 0 => by
    rw [List.zipIdx_cons, List.filterMap_cons]
    have e : (r.zipIdx (j + 1)).filterMap (fun p : X × Nat => if decide (p.2 ≠ j + 0) = true then some (g p.1) else none) = r.map g := by
      have : ∀ (r : List X) (i : Nat), j < i → (r.zipIdx i).filterMap (fun p : X × Nat => if decide (p.2 ≠ j + 0) = true then some (g p.1) else none) = r.map g := by
        intro r
        induction r with
        | nil => intro i _; rfl
        | cons y r ih =>
          intro i hi
          rw [List.zipIdx_cons, List.filterMap_cons]
          have : i ≠ j + 0 := by omega
          simp only [this, ne_eq, not_false_eq_true, decide_true, if_true]
          rw [List.map_cons, ← ih (i + 1) (by omega)]
      exact this r (j + 1) (by omega)
    simp only [ne_eq, Nat.add_zero, not_true_eq_false, decide_false, Bool.false_eq_true, if_false] at e ⊢
    rw [e]; rfl
  | x :: r, j, k + 1 => by
    rw [List.zipIdx_cons, List.filterMap_cons]
    have : j ≠ j + (k + 1) := by omega
    simp only [this, ne_eq, not_false_eq_true, decide_true, if_true]
    have ih := keep_but g r (j + 1) k
    rw [show j + 1 + k = j + (k + 1) from by omega] at ih
    simp only [ne_eq] at ih
    rw [ih]
    rfl
theorem more_end {rows : List Rw} (ok : ∀ r ∈ rows, RowOk r) (h2 : 2 ≤ rows.length) (h8 : rows.length ≤ 8) {a b c : Int} (p : Pot a b c) (n w : Int) (hn : n = rows.length) (x y : W) (ux : UW x) (lg f k t8 : D) :
    ∃ a' c' ρ, h__law_right_10 (stq (potO a b c) n (Wd (rowsD rows)) w x y [Wd lg, Wd (srD rows), Wd t8, U, Wd (.tup [.str "more", k]), Wd f, U, U, U, U, U, U, U]) = some (.rt (.sh (.bl true)) ρ) ∧ ρ[0]? = some (W.w true (potO a' b c')) ∧ 0 ≤ a' ∧ c ≤ c' ∧ c' ≤ c + 1 := by
  obtain ⟨r, a', c', e1, r0, r1, a0, c0, c1⟩ := p_take p (u := n) (by omega) (by omega)
  obtain ⟨i, rfl⟩ : ∃ i : Nat, r = (i : Int) := ⟨r.toNat, by omega⟩
  have hi : i < rows.length := by omega
  have rok : ∀ r ∈ rest rows i, RowOk r := fun r hr => by
    unfold rest at hr
    rcases List.mem_append.mp hr with hr | hr
    · exact ok r (List.mem_of_mem_take hr)
    · exact ok r (List.mem_of_mem_drop hr)
  have rl : (rest rows i).length = rows.length - 1 := by unfold rest; rw [List.length_append, List.length_take, List.length_drop]; omega
  have r1' : 1 ≤ (rest rows i).length := by omega
  have r8' : (rest rows i).length ≤ 8 := by omega
  have sl : (sr rows).length = rows.length := by unfold sr; rw [List.length_map]
  have ss := sr_ok rok r1' r8'
  obtain ⟨L, H, e⟩ := ends_ex ss.ne
  -- the rest
  have s2 : h__law_right_10_2 (stq (potO a' b c') n (Wd (rowsD rows)) w (Wd (.int (i : Nat))) y [Wd lg, Wd (srD rows), Wd t8, U, Wd (.tup [.str "more", k]), Wd f, U, U, U, U, U, U, U]) = some (.nx (stq (potO a' b c') n (Wd (rowsD rows)) w (Wd (.int (i : Nat))) y [Wd lg, Wd (srD rows), Wd t8, U, Wd (.tup [.str "more", k]), Wd f, U, Wd (rowsD (rest rows i)), U, U, U, U, U])) := by
    have q1 : cutD (rows.map rowD) none (some (i : Int)) = (rows.map rowD).take i := cut_take (by rw [List.length_map]; omega)
    have q2 : cutD (rows.map rowD) (some ((i : Int) + 1)) none = (rows.map rowD).drop (i + 1) := by
      rw [show (i : Int) + 1 = ((i + 1 : Nat) : Int) from by omega, cut_drop (by rw [List.length_map]; omega)]
    have q3 : addD (.lst ((rows.map rowD).take i)) (.lst ((rows.map rowD).drop (i + 1))) = some (rowsD (rest rows i)) := by
      have : small (((rows.map rowD).take i).length + ((rows.map rowD).drop (i + 1)).length) = true := decide_eq_true (by simp only [List.length_map, List.length_take, List.length_drop]; omega)
      show (if small (((rows.map rowD).take i).length + ((rows.map rowD).drop (i + 1)).length) then some (D.lst ((rows.map rowD).take i ++ (rows.map rowD).drop (i + 1))) else none) = _
      rw [this, if_pos rfl]
      show some (D.lst _) = some (D.lst ((rows.take i ++ rows.drop (i + 1)).map rowD))
      rw [List.map_append, List.map_take, List.map_drop]
    show asgS 13 _ _ = _
    simp [slO, q1, q2, q3]
  have s3 : h__law_right_10_3 (stq (potO a' b c') n (Wd (rowsD rows)) w (Wd (.int (i : Nat))) y [Wd lg, Wd (srD rows), Wd t8, U, Wd (.tup [.str "more", k]), Wd f, U, Wd (rowsD (rest rows i)), U, U, U, U, U]) = some (.nx (stq (potO a' b c') n (Wd (rowsD rows)) w (Wd (.int (i : Nat))) y [Wd lg, Wd (srD rows), Wd t8, U, Wd (.tup [.str "more", k]), Wd f, U, Wd (rowsD (rest rows i)), Wd (srD (rest rows i)), U, U, U, U])) := by
    have e9 : lcE [15, 12] (itL enumD (consL (vE 7) nilL)) (bT 2 (bCons (bN 15) (bCons (bN 12) bNil))) (bE (op2 (eqD true) (vE 15) (vE 4))) (vE 12) (stq (potO a' b c') n (Wd (rowsD rows)) w (Wd (.int (i : Nat))) y [Wd lg, Wd (srD rows), Wd t8, U, Wd (.tup [.str "more", k]), Wd f, U, Wd (rowsD (rest rows i)), U, U, U, U, U]) =
        some (.ol ((sr (rest rows i)).map srcD), stq (potO a' b c') n (Wd (rowsD rows)) w (Wd (.int (i : Nat))) y [Wd lg, Wd (srD rows), Wd t8, U, Wd (.tup [.str "more", k]), Wd f, U, Wd (rowsD (rest rows i)), U, U, U, U, U]) := by
      rw [lcE_pure (xs := (sr rows).zipIdx) (enc := fun p => .tup [.int (p.2 : Nat), srcD p.1]) (F := fun p => if decide (p.2 ≠ 0 + i) = true then some (srcD p.1) else none) (ρ1 := stq (potO a' b c') n (Wd (rowsD rows)) w (Wd (.int (i : Nat))) y [Wd lg, Wd (srD rows), Wd t8, U, Wd (.tup [.str "more", k]), Wd f, U, Wd (rowsD (rest rows i)), U, U, U, U, U])]
      · rw [keep_but srcD (sr rows) 0 i, sr_rest]
      · simp [enumD, pairs_zip]
      · exact decide_eq_true (by rw [List.length_zipIdx]; omega)
      · intro q _
        have qq : eqD true (.int (q.2 : Nat)) (.int (i : Nat)) = some (.bl (decide (q.2 ≠ 0 + i))) := by
          rw [eqI']
          by_cases z : q.2 = i
          · simp [z]
          · have : ¬ (q.2 : Int) = (i : Int) := by omega
            simp [z, this]
        by_cases z : q.2 = i
        · exact .inl ⟨by simp [z], stq (potO a' b c') n (Wd (rowsD rows)) w (Wd (.int (i : Nat))) y [Wd lg, Wd (srD rows), Wd t8, U, Wd (.tup [.str "more", k]), Wd f, Wd (srcD q.1), Wd (rowsD (rest rows i)), U, Wd (.int (q.2 : Nat)), U, U, U], stq (potO a' b c') n (Wd (rowsD rows)) w (Wd (.int (i : Nat))) y [Wd lg, Wd (srD rows), Wd t8, U, Wd (.tup [.str "more", k]), Wd f, Wd (srcD q.1), Wd (rowsD (rest rows i)), U, Wd (.int (q.2 : Nat)), U, U, U], rfl, by simp [z], rfl⟩
        · have zz : ¬ (q.2 : Int) = (i : Int) := by omega
          exact .inr ⟨srcD q.1, by simp [z], stq (potO a' b c') n (Wd (rowsD rows)) w (Wd (.int (i : Nat))) y [Wd lg, Wd (srD rows), Wd t8, U, Wd (.tup [.str "more", k]), Wd f, Wd (srcD q.1), Wd (rowsD (rest rows i)), U, Wd (.int (q.2 : Nat)), U, U, U], stq (potO a' b c') n (Wd (rowsD rows)) w (Wd (.int (i : Nat))) y [Wd lg, Wd (srD rows), Wd t8, U, Wd (.tup [.str "more", k]), Wd f, Wd (srcD q.1), Wd (rowsD (rest rows i)), U, Wd (.int (q.2 : Nat)), U, U, U], stq (potO a' b c') n (Wd (rowsD rows)) w (Wd (.int (i : Nat))) y [Wd lg, Wd (srD rows), Wd t8, U, Wd (.tup [.str "more", k]), Wd f, Wd (srcD q.1), Wd (rowsD (rest rows i)), U, Wd (.int (q.2 : Nat)), U, U, U], rfl, by simp [zz], by simp, rfl⟩
    show asgS 14 _ _ = _
    simp only [ev_asg, ev_sh, ev_fr, ev_callB, ev_cons, e9, Option.map_some, frz_ol, ev_nil, ev_sh1, tupleD, frz_sh]
    simp
  have mk := mk_rows rok r1' r8' (g := vE 13) (ρ := stq (potO a' b c') n (Wd (rowsD rows)) w (Wd (.int (i : Nat))) y [Wd lg, Wd (srD rows), Wd t8, U, Wd (.tup [.str "more", k]), Wd f, U, Wd (rowsD (rest rows i)), Wd (srD (rest rows i)), U, U, U, U]) (ρ1 := stq (potO a' b c') n (Wd (rowsD rows)) w (Wd (.int (i : Nat))) y [Wd lg, Wd (srD rows), Wd t8, U, Wd (.tup [.str "more", k]), Wd f, U, Wd (rowsD (rest rows i)), Wd (srD (rest rows i)), U, U, U, U]) (by simp)
  refine ⟨a', c', stq (potO a' b c') n (Wd (rowsD rows)) w (Wd (.int (i : Nat))) y [Wd lg, Wd (srD rows), Wd t8, U, Wd (.tup [.str "more", k]), Wd f, U, Wd (rowsD (rest rows i)), Wd (srD (rest rows i)), U, U, U, U], ?_, rfl, a0, c0, c1⟩
  have s1 : h__law_right_10_1 (stq (potO a b c) n (Wd (rowsD rows)) w x y [Wd lg, Wd (srD rows), Wd t8, U, Wd (.tup [.str "more", k]), Wd f, U, U, U, U, U, U, U]) = some (.nx (stq (potO a' b c') n (Wd (rowsD rows)) w (Wd (.int (i : Nat))) y [Wd lg, Wd (srD rows), Wd t8, U, Wd (.tup [.str "more", k]), Wd f, U, U, U, U, U, U, U])) := by
    show asgS 4 _ _ = _
    simp [callR, e1, ux]
  have sc : hC__law_right_10 (stq (potO a b c) n (Wd (rowsD rows)) w x y [Wd lg, Wd (srD rows), Wd t8, U, Wd (.tup [.str "more", k]), Wd f, U, U, U, U, U, U, U]) = some (true, stq (potO a b c) n (Wd (rowsD rows)) w x y [Wd lg, Wd (srD rows), Wd t8, U, Wd (.tup [.str "more", k]), Wd f, U, U, U, U, U, U, U]) := by
    simp [hC__law_right_10, ss5]
  show ifS hC__law_right_10 hA__law_right_10 hE__law_right_10 _ = _
  rw [ev_if, sc]
  show seqS h__law_right_10_1 (seqS h__law_right_10_2 (seqS h__law_right_10_3 h__law_right_10_4)) _ = _
  rw [seq_of s1, seq_of s2, seq_of s3]
  show retS _ _ = _
  by_cases hle : L ≤ H
  · have t1 := p_truth_yes ss e hle
    have t2 := p_fitting (logR_ok rok r1' r8') ((fit_rows rok r1' r8' e).mpr hle)
    simp [-ev_make, mk, t1, t2, logO_frz, ss1, ss3, eqB]
  · obtain ⟨k2, t1⟩ := p_truth_no ss e (by omega)
    obtain ⟨r2, t2⟩ := p_fitting_no (logR_ok rok r1' r8') (fun z => hle ((fit_rows rok r1' r8' e).mp z))
    simp [-ev_make, mk, t1, t2, logO_frz, ss2, ss4, eqB]
end Hk98
/-! text Q25 -/
set_option linter.all false
set_option maxRecDepth 100000
set_option maxHeartbeats 1000000
namespace Hk98
open PySem L2 Dl TL Mi
theorem d0_is : ("d0" : Str) = dN 0 := by
  apply of_tl
  unfold dN
  decide +kernel
theorem dN_add {i : Nat} (h : i < 100) : addD (.str ("d" : Str)) (.str (I (i : Nat))) = some (.str (dN i)) := by
  have l1 : (I (i : Nat)).length ≤ 7 := len_int (by omega)
  have z1 : ("d" : Str).length = 1 := by decide +kernel
  exact add_str (by omega)
theorem r11 {rows : List Rw} {L H : Int} (sk : Src (sr rows)) (e : Ends (sr rows) L H) (hle : L ≤ H) (o : O) (n w : Int) (hn : n = rows.length) (r2 x : W) (a c : W) :
    h__law_right_11 (stq o n r2 w x (Wd (.int L)) [a, Wd (srD rows), Wd (.int H), U, Wd (.tup [.str "spans", .tup [srcD (L, H)]]), c, U, U, U, U, U, U, U]) = some (.nx (stq o n r2 w x (Wd (.int L)) [a, Wd (srD rows), Wd (.int H), U, Wd (.tup [.str "spans", .tup [srcD (L, H)]]), c, U, U, U, U, U, U, U])) := by
  have hl : (sr rows).length = rows.length := by unfold sr; rw [List.length_map]
  have q1 := p_agr_yes sk e hle
  rw [hl, ← hn] at q1
  have q2 := p_hull_yes sk e hle
  have k0 : PyData.canLay0 (.str ("spans" : Str)) = true := w_spans.1
  have k1 : eqD true (.tup [.str ("spans" : Str), .tup [srcD (L, H)]]) (.tup [.str ("spans" : Str), .tup [.tup [.int L, .int H]]]) = some (.bl false) := eq_self (d := .tup [.str ("spans" : Str), .tup [srcD (L, H)]]) (by simp [okD, okDs, srcD, k0]) true
  have k2 : eqD true (.tup [srcD (L, H)]) (.tup [.tup [.int L, .int H]]) = some (.bl false) := eq_self (d := .tup [srcD (L, H)]) rfl true
  have k3 : eqD true (srcD (L, H)) (.tup [.int L, .int H]) = some (.bl false) := eq_self (d := srcD (L, H)) rfl true
  show ifS _ _ _ _ = _
  simp [small, q1, q2, k1, k2, k3]
theorem r12 {rows : List Rw} (ok : ∀ r ∈ rows, RowOk r) (h1 : 1 ≤ rows.length) (h8 : rows.length ≤ 8) {L H : Int} (sk : Src (sr rows)) (e : Ends (sr rows) L H) (hle : L ≤ H) (o : O) (n w : Int) (hn : n = rows.length) (r2 x : W) (b c : W) :
    h__law_right_12 (stq o n r2 w x (Wd (.int L)) [Wd (logD (logR rows)), Wd (srD rows), Wd (.int H), U, b, c, U, U, U, U, U, U, U]) = some (.nx (stq o n r2 w x (Wd (.int L)) [Wd (logD (logR rows)), Wd (srD rows), Wd (.int H), U, b, c, U, U, U, U, U, U, U])) := by
  have hok := logR_ok ok h1 h8
  have e' : Ends (srcs (rowF rows) rows.length) L H := by rw [← sr_is]; exact e
  have hf : Fits (logR rows) := (fit_rows ok h1 h8 e).mpr hle
  have e9 : lcE [4] (itL rng1D (consL (vE 1) nilL)) (bN 4) yesB (op2 (eqD false) (frE (callP 2 m_span_of (consL (vE 6) (consL (op2 addD (cE (.str "d")) (frE (callB (sh1 strD) (consL (vE 4) nilL)))) nilL)))) (tupE (consL (vE 5) (consL (vE 8) nilL)))) (stq o n r2 w x (Wd (.int L)) [Wd (logD (logR rows)), Wd (srD rows), Wd (.int H), U, b, c, U, U, U, U, U, U, U]) =
      some (.ol ((List.range rows.length).map fun _ => .bl true), stq o n r2 w x (Wd (.int L)) [Wd (logD (logR rows)), Wd (srD rows), Wd (.int H), U, b, c, U, U, U, U, U, U, U]) := by
    refine lcE_map (xs := List.range rows.length) (enc := fun i => .int (i : Nat)) (F := fun _ => .bl true) (ρ1 := stq o n r2 w x (Wd (.int L)) [Wd (logD (logR rows)), Wd (srD rows), Wd (.int H), U, b, c, U, U, U, U, U, U, U]) ?_ (decide_eq_true (by rw [List.length_range]; omega)) fun i hi => ?_
    · have : rng1D [.int n] = some ((List.range rows.length).map fun i => D.int (i : Nat)) := by
        show (if -1000000 ≤ n ∧ n ≤ 1000000 then some (rangeD 0 n.toNat) else none) = _
        rw [if_pos (by omega), show n.toNat = rows.length from by omega]
        unfold rangeD
        simp
      simp [this]
    · have hi := List.mem_range.mp hi
      have q1 : strD (.int (i : Nat)) = some (.str (I (i : Nat))) := strD_int (by omega)
      have q2 := dN_add (i := i) (by omega)
      have mem : dN i ∈ (logR rows).dn := by
        show dN i ∈ (logM (rowF rows) rows.length rows.length).dn
        rw [logM_dn]; exact List.mem_map.mpr ⟨i, List.mem_range.mpr hi, rfl⟩
      have q3 := p_span_of hok hf mem
      obtain ⟨s1, s2⟩ := span_is (fun i hi => rowF_ok ok hi) hok (Nat.le_refl _) h1 e' hle hi
      have s1' : (logR rows).sh (dN i) + (logR rows).G ((logR rows).at (dN i)) "." = L := s1
      have s2' : (logR rows).sh (dN i) - (logR rows).G "." ((logR rows).at (dN i)) = H := s2
      rw [s1', s2'] at q3
      have q4 : eqD false (.tup [.int L, .int H]) (.tup [.int L, .int H]) = some (.bl true) := eq_self (d := .tup [.int L, .int H]) rfl false
      exact ⟨stq o n r2 w (Wd (.int (i : Nat))) (Wd (.int L)) [Wd (logD (logR rows)), Wd (srD rows), Wd (.int H), U, b, c, U, U, U, U, U, U, U], stq o n r2 w (Wd (.int (i : Nat))) (Wd (.int L)) [Wd (logD (logR rows)), Wd (srD rows), Wd (.int H), U, b, c, U, U, U, U, U, U, U], rfl, by simp [q1, q2, q3, q4, small], rfl⟩
  have a1 : allD (.lst ((List.range rows.length).map fun _ => D.bl true)) = some (.bl true) := all_true _
  have w1 := p_wrong_no sk e hle
  have w2 : eqD true (.tup []) (.tup []) = some (.bl false) := rfl
  show ifS _ _ _ _ = _
  generalize hR : ((List.range rows.length).map fun _ => D.bl true) = R at e9 a1
  simp [e9, a1, w1, w2, small]
theorem r13 {rows : List Rw} (ok : ∀ r ∈ rows, RowOk r) (h1 : 1 ≤ rows.length) (h8 : rows.length ≤ 8) {L H : Int} (e : Ends (sr rows) L H) (hle : L ≤ H) :
    ∃ T, L ≤ T ∧ T ≤ H ∧ ∀ (o : O) (n w : Int) (r2 x : W) (s t : W) (b : W),
    h__law_right_13 (stq o n r2 w x (Wd (.int L)) [Wd (logD (logR rows)), s, t, U, b, Wd (.tup [.str "course", .tup ((courseL (logR rows) ".").map D.int)]), U, U, U, U, U, U, U]) = some (.nx (stq o n r2 w x (Wd (.int L)) [Wd (logD (logR rows)), s, t, U, b, Wd (.tup [.str "course", .tup ((courseL (logR rows) ".").map D.int)]), U, U, U, U, Wd (.tup (List.replicate rows.length (.int T))), U, U])) := by
  have hok := logR_ok ok h1 h8
  have e' : Ends (srcs (rowF rows) rows.length) L H := by rw [← sr_is]; exact e
  have hf : Fits (logR rows) := (fit_rows ok h1 h8 e).mpr hle
  have hc := courseL_ok hok hf (dot_clock _)
  obtain ⟨T, t1, t2, t3⟩ := mom_of hok (Nat.le_refl _) h1 e' hc
  refine ⟨T, t1, t2, fun o n w r2 x s t b => ?_⟩
  have pt := p_times hok hc
  have el : ((logR rows).dn.map fun n => D.int ((logR rows).sh n - ((logR rows).G "." ((logR rows).at n) - (logR rows).G "." "."))) = List.replicate rows.length (.int T) := by
    show (((logM (rowF rows) rows.length rows.length).dn).map _) = _
    rw [logM_dn, List.map_map]
    apply List.eq_replicate_iff.mpr
    refine ⟨by simp, fun d hd => ?_⟩
    obtain ⟨i, hi, rfl⟩ := List.mem_map.mp hd
    have hi := List.mem_range.mp hi
    obtain ⟨a1, a2⟩ := logM_at hok hi
    have a1' : (logR rows).at (dN i) = tN i := a1
    have a2' : (logR rows).sh (dN i) = (rowF rows i).2.2 := a2
    have := t3 i hi
    show D.int ((logR rows).sh (dN i) - ((logR rows).G "." ((logR rows).at (dN i)) - (logR rows).G "." ".")) = _
    rw [a1', a2']
    exact congrArg D.int this
  rw [el] at pt
  rw [← courseL_is] at pt
  show asgS 16 _ _ = _
  simp [pt]
@[simp] theorem ev_tupRg {g : RgE} {ρ : List W} : tupRg g ρ = (match g ρ with | some ((a, b), ρ1) => if rgOk a b then some (.tup (rangeD a (b - a).toNat), ρ1) else none | none => none) := rfl
@[simp] theorem ev_rg1 {g : DE} {ρ : List W} : rg1 g ρ = (match g ρ with | some (.int n, ρ1) => some ((0, n), ρ1) | _ => none) := rfl
theorem okDs_ints (n : Nat) (l : List Int) : okDs n (l.map D.int) = true := okDs_names n fun d hd => by
  obtain ⟨i, _, rfl⟩ := List.mem_map.mp hd; rfl
theorem r14 {rows : List Rw} (ok : ∀ r ∈ rows, RowOk r) (h1 : 1 ≤ rows.length) (h8 : rows.length ≤ 8) {L H T : Int} (sk : Src (sr rows)) (e : Ends (sr rows) L H) (t1 : L ≤ T) (t2 : T ≤ H) (o : O) (n w : Int) (hn : n = rows.length) (r2 x : W) (a t b c : W) :
    h__law_right_14 (stq o n r2 w x (Wd (.int L)) [a, Wd (srD rows), t, U, b, c, U, U, U, U, Wd (.tup (List.replicate rows.length (.int T))), U, U]) = some (.nx (stq o n r2 w x (Wd (.int L)) [a, Wd (srD rows), t, U, b, c, U, U, U, U, Wd (.tup (List.replicate rows.length (.int T))), U, U])) := by
  have z0 : subD (.tup (List.replicate rows.length (.int T))) (.int 0) = some (.int T) := by
    obtain ⟨k, hk⟩ : ∃ k, rows.length = k + 1 := ⟨rows.length - 1, by omega⟩
    rw [hk, List.replicate_succ]
    exact sub_t0
  have e9 : lcE [17] (itE seqS' (vE 16)) (bN 17) yesB (op2 (eqD false) (vE 17) (op2 subD (vE 16) (cE (.int 0)))) (stq o n r2 w x (Wd (.int L)) [a, Wd (srD rows), t, U, b, c, U, U, U, U, Wd (.tup (List.replicate rows.length (.int T))), U, U]) =
      some (.ol ((List.replicate rows.length T).map fun _ => .bl true), stq o n r2 w x (Wd (.int L)) [a, Wd (srD rows), t, U, b, c, U, U, U, U, Wd (.tup (List.replicate rows.length (.int T))), U, U]) := by
    refine lcE_map (xs := List.replicate rows.length T) (enc := D.int) (F := fun _ => .bl true) (ρ1 := stq o n r2 w x (Wd (.int L)) [a, Wd (srD rows), t, U, b, c, U, U, U, U, Wd (.tup (List.replicate rows.length (.int T))), U, U]) (by simp [seqS', seqD]) (decide_eq_true (by rw [List.length_replicate]; omega)) fun i hi => ?_
    have : i = T := (List.mem_replicate.mp hi).2
    subst this
    exact ⟨stq o n r2 w x (Wd (.int L)) [a, Wd (srD rows), t, U, b, c, U, U, U, U, Wd (.tup (List.replicate rows.length (.int i))), Wd (.int i), U], stq o n r2 w x (Wd (.int L)) [a, Wd (srD rows), t, U, b, c, U, U, U, U, Wd (.tup (List.replicate rows.length (.int i))), Wd (.int i), U], rfl, by simp [z0], rfl⟩
  have a1 : allD (.lst ((List.replicate rows.length T).map fun _ => D.bl true)) = some (.bl true) := all_true _
  have b0 : -199998 ≤ T ∧ T ≤ 199998 := by
    obtain ⟨p, hp, hpL⟩ := e.l2
    obtain ⟨q, hq, hqH⟩ := e.h2
    have := sk.ok p hp; have := sk.ok q hq
    omega
  have hv := p_have (sr rows) sk T b0.1 b0.2
  have hl : (sr rows).length = rows.length := by unfold sr; rw [List.length_map]
  rw [hav_all e t1 t2, hl] at hv
  have er : natsD (List.range rows.length) = rangeD 0 rows.length := by unfold natsD rangeD; simp
  rw [er] at hv
  have q : eqD true (.tup (rangeD 0 rows.length)) (.tup (rangeD 0 rows.length)) = some (.bl false) := eq_self (d := .tup (rangeD 0 rows.length)) (by
    show (decide (0 < 60) && okDs 59 (rangeD 0 rows.length)) = true
    have : rangeD 0 rows.length = ((List.range rows.length).map fun (i : Nat) => (0 : Int) + (i : Nat)).map D.int := by unfold rangeD; rw [List.map_map]; rfl
    rw [this, okDs_ints]; rfl) true
  have rg : rgOk 0 n = true := decide_eq_true (by omega)
  have nt : n.toNat = rows.length := by omega
  generalize ((List.replicate rows.length T).map fun _ => D.bl true) = R at e9 a1
  show ifS _ _ _ _ = _
  simp [e9, a1, z0, hv, rg, nt, q]
theorem lot_one {f : Nat → Rw} {n m : Nat} (h : m < n) : [dN m] = (logM f n n).dn.filter fun x => decide (x ∈ [dN m]) := by
  rw [logM_dn]
  have : ∀ k, m < k → [dN m] = ((List.range k).map dN).filter fun x => decide (x ∈ [dN m]) := by
    intro k
    induction k with
    | zero => intro h; omega
    | succ k ih =>
      intro hk
      rw [List.range_succ, List.map_append, List.filter_append]
      by_cases q : m < k
      · rw [← ih q]
        have : dN k ≠ dN m := fun e => by have := dN_inj e; omega
        simp [this]
      · have : m = k := by omega
        subst this
        have e1 : ((List.range m).map dN).filter (fun x => decide (x ∈ [dN m])) = [] := by
          rw [List.filter_eq_nil_iff]
          intro x hx
          obtain ⟨i, hi, rfl⟩ := List.mem_map.mp hx
          have hi := List.mem_range.mp hi
          have : dN i ≠ dN m := fun e => by have := dN_inj e; omega
          simp [this]
        rw [e1]
        simp
  exact this n h
theorem srcs_last (f : Nat → Rw) (m : Nat) : (srcs f (m + 1)).dropLast = srcs f m := by
  unfold srcs
  rw [List.range_succ, List.map_append]
  simp
theorem last_end {rows : List Rw} (ok : ∀ r ∈ rows, RowOk r) (h2 : 2 ≤ rows.length) (h8 : rows.length ≤ 8) {L H : Int} (e : Ends (sr rows) L H) (hle : L ≤ H) (o : O) (n w : Int) (hn : n = rows.length) (r2 x y : W) (t b c d : W) :
    ∃ ρ, seqS h__law_right_15 h__law_right_16 (stq o n r2 w x y [Wd (logD (logR rows)), Wd (srD rows), t, U, b, c, U, U, U, U, d, U, U]) = some (.rt (.sh (.bl true)) ρ) ∧ ρ[0]? = some (W.w true o) := by
  obtain ⟨m, hm⟩ : ∃ m, rows.length = m + 1 := ⟨rows.length - 1, by omega⟩
  have hok := logR_ok ok (by omega) h8
  have hnm : n - 1 = (m : Nat) := by omega
  have q1 : strD (.int (m : Nat)) = some (.str (I (m : Nat))) := strD_int (by omega)
  have q2 := dN_add (i := m) (by omega)
  have lay : ∀ x ∈ [dN m], PyData.canLay0 (.str x) = true := fun x hx => by
    have : x = dN m := by simpa using hx
    rw [this]; exact (nm_dN (by omega)).lay
  have lot : [dN m] = (logR rows).dn.filter fun x => decide (x ∈ [dN m]) := lot_one (f := rowF rows) (n := rows.length) (by omega)
  have wo := p_without hok lay (by simp) lot
  have eq1 : (logR rows).less [dN m] = logM (rowF rows) (m + 1) m := by
    show (logM (rowF rows) rows.length rows.length).less [dN m] = _
    rw [hm]
    exact less_last (rowF rows) (m + 1) m (by omega)
  rw [eq1] at wo
  have hfo : ∀ i, i < m + 1 → RowOk (rowF rows i) := fun i hi => rowF_ok ok (by omega)
  have ok2 : (logM (rowF rows) (m + 1) m).Ok := logM_ok hfo (by omega) (by omega) (by omega)
  have sk2 : Src (srcs (rowF rows) m) := srcs_ok (fun i hi => hfo i (by omega)) (by omega) (by omega)
  obtain ⟨L2, H2, e2⟩ := ends_ex sk2.ne
  have e' : Ends (srcs (rowF rows) (m + 1)) L H := by rw [← hm, ← sr_is]; exact e
  have hle2 : L2 ≤ H2 := by
    obtain ⟨a1, _, _⟩ := ends_of e'
    obtain ⟨_, ⟨i, hi, b2⟩, ⟨j, hj, b3⟩⟩ := ends_of e2
    have := (a1 i (by omega)).1
    have := (a1 j (by omega)).2
    omega
  have hf2 : Fits (logM (rowF rows) (m + 1) m) := (fits_iff hfo ok2 (by omega) (by omega) e2).mpr hle2
  have mem : dN 0 ∈ (logM (rowF rows) (m + 1) m).dn := by rw [logM_dn]; exact List.mem_map.mpr ⟨0, List.mem_range.mpr (by omega), rfl⟩
  have q3 := p_span_of ok2 hf2 mem
  obtain ⟨s1, s2⟩ := span_is hfo ok2 (by omega) (by omega) e2 hle2 (i := 0) (by omega)
  rw [s1, s2] at q3
  have q4 := p_hull_yes sk2 e2 hle2
  have q5 : cutD ((sr rows).map srcD) none (some (-1)) = (srcs (rowF rows) m).map srcD := by
    have ne : (sr rows).map srcD ≠ [] := by
      intro z
      have := congrArg List.length z
      unfold sr at this
      simp only [List.length_map, List.length_nil] at this
      omega
    rw [cut_last ne, sr_is, hm, ← List.map_dropLast, srcs_last]
  have q6 : eqD false (.tup [.int L2, .int H2]) (srcD (L2, H2)) = some (.bl true) := eq_self (d := srcD (L2, H2)) rfl false
  have lf := logO_frz (logM (rowF rows) (m + 1) m)
  have s15 : h__law_right_15 (stq o n r2 w x y [Wd (logD (logR rows)), Wd (srD rows), t, U, b, c, U, U, U, U, d, U, U]) = some (.nx (stq o n r2 w x y [Wd (logD (logR rows)), Wd (srD rows), t, U, b, c, U, U, U, U, d, U, Wd (logD (logM (rowF rows) (m + 1) m))])) := by
    simp only [strsL, List.map_cons, List.map_nil] at wo
    show asgS 18 _ _ = _
    simp [hnm, q1, q2, small, wo, lf]
  refine ⟨stq o n r2 w x y [Wd (logD (logR rows)), Wd (srD rows), t, U, b, c, U, U, U, U, d, U, Wd (logD (logM (rowF rows) (m + 1) m))], ?_, rfl⟩
  rw [seq_of s15]
  show retS _ _ = _
  simp [d0_is, q3, slO, negI, q5, q4, q6]
end Hk98
/-! text Q26 -/
set_option linter.all false
set_option maxRecDepth 100000
set_option maxHeartbeats 1000000
namespace Hk98
open PySem L2 Dl TL Mi
/-- each lap of the law answers True on a pot that holds -/
def Right : Prop := ∀ a b c : Int, Pot a b c → c < 90000 → ∃ a' c', m__law_right (potO a b c) [] = some (.sh (.bl true), potO a' b c') ∧ 0 ≤ a' ∧ c ≤ c' ∧ c' ≤ c + 100
theorem nb5 (o : O) (many wide : Int) (rows : List Rw) (x y : W) (h : nb [y] 0 = true) : nb (riS o many rows wide x y) 5 = true := h
theorem right : Right := by
  intro a b c p hc
  -- the first draws
  obtain ⟨r1, a1, c1, e1, x0, x1, q0, q1, q2⟩ := p_take p (u := 7) (by decide) (by decide)
  have p1 : Pot a1 b c1 := ⟨q0, p.b0, p.b1, by have := p.c0; omega, by omega⟩
  obtain ⟨w, a2, c2, e2, hw, s0, s1, s2⟩ := p_of p1 [2, 6, 30] (by simp) (by simp)
  have p2 : Pot a2 b c2 := ⟨s0, p.b0, p.b1, by have := p.c0; omega, by omega⟩
  have hw' : w = 2 ∨ w = 6 ∨ w = 30 := by simpa using hw
  have st1 : h__law_right_1 [W.w true (potO a b c), U, U, U, U, U, U, U, U, U, U, U, U, U, U, U, U, U, U] = some (.nx (riS (potO a2 b c2) (2 + r1) [] w U U)) := by
    have e2' : m__law_of (potO a1 b c1) [.lst [.int 2, .int 6, .int 30]] = some (.sh (.int w), potO a2 b c2) := e2
    show parO3 1 2 3 _ _ = _
    simp [callR, e1, e2', small]
  obtain ⟨n, hn⟩ : ∃ n : Nat, 2 + r1 = (n : Int) := ⟨(2 + r1).toNat, by omega⟩
  have n2 : 2 ≤ n := by omega
  have n8 : n ≤ 8 := by omega
  have rl0 : (rangeD 0 n).length = n := by simp [rangeD]
  obtain ⟨a3, c3, rows, x, y, e3, hl, ok, t0, t1, t2, ux, uy⟩ := rows_loop (many := 2 + r1) hw' (rangeD 0 n) a2 c2 [] U U p2 (by rw [rl0]; omega) (by rw [rl0]; simp; omega) (by simp) (fun _ _ _ => rfl) rfl rfl
  rw [rl0] at hl t2
  have hl : rows.length = n := by simpa using hl
  have h1 : 1 ≤ rows.length := by omega
  have h2 : 2 ≤ rows.length := by omega
  have h8 : rows.length ≤ 8 := by omega
  have hmn : 2 + r1 = (rows.length : Int) := by omega
  have p3 : Pot a3 b c3 := ⟨t0, p.b0, p.b1, by have := p.c0; omega, by omega⟩
  have st2 : h__law_right_2 (riS (potO a2 b c2) (2 + r1) [] w U U) = some (.nx (riS (potO a3 b c3) (2 + r1) rows w x y)) := by
    have it : hI__law_right_2 (riS (potO a2 b c2) (2 + r1) [] w U U) = some (rangeD 0 n, riS (potO a2 b c2) (2 + r1) [] w U U) := by
      have : rng1D [.int (2 + r1)] = some (rangeD 0 n) := by
        show (if -1000000 ≤ 2 + r1 ∧ 2 + r1 ≤ 1000000 then some (rangeD 0 (2 + r1).toNat) else none) = _
        rw [if_pos (by omega), hn]; rfl
      simp [hI__law_right_2, this]
    show forS hI__law_right_2 hT__law_right_2 hB__law_right_2 _ = _
    rw [ev_for, it]
    exact e3
  have st3 := r3 ok h1 h8 (potO a3 b c3) (2 + r1) w x y
  have st4 := r4 (rows := rows) h8 (potO a3 b c3) (2 + r1) w x y (Wd (logD (logR rows)))
  have sk := sr_ok ok h1 h8
  obtain ⟨L, H, e⟩ := ends_ex sk.ne
  have head : ∀ rest : DS, seqS h__law_right_1 (seqS h__law_right_2 (seqS h__law_right_3 (seqS h__law_right_4 rest))) [W.w true (potO a b c), U, U, U, U, U, U, U, U, U, U, U, U, U, U, U, U, U, U] =
      rest (stq (potO a3 b c3) (2 + r1) (Wd (rowsD rows)) w x y [Wd (logD (logR rows)), Wd (srD rows), U, U, U, U, U, U, U, U, U, U, U]) := fun rest => by
    rw [seq_of st1, seq_of st2, seq_of st3, seq_of st4]
  have body : m__law_right (potO a b c) [] = (match seqS h__law_right_5 (seqS h__law_right_6 (seqS h__law_right_7 (seqS h__law_right_8 (seqS h__law_right_9 (seqS h__law_right_10 (seqS h__law_right_11 (seqS h__law_right_12 (seqS h__law_right_13 (seqS h__law_right_14 (seqS h__law_right_15 h__law_right_16))))))))))
      (stq (potO a3 b c3) (2 + r1) (Wd (rowsD rows)) w x y [Wd (logD (logR rows)), Wd (srD rows), U, U, U, U, U, U, U, U, U, U, U]) with
      | some (.rt r ρ) => (match ρ[0]? with | some (W.w true o') => some (r, o') | _ => none)
      | some (.nx ρ) => (match ρ[0]? with | some (W.w true o') => some (.sh .non, o') | _ => none)
      | _ => none) := by
    rw [← head (seqS h__law_right_5 (seqS h__law_right_6 (seqS h__law_right_7 (seqS h__law_right_8 (seqS h__law_right_9 (seqS h__law_right_10 (seqS h__law_right_11 (seqS h__law_right_12 (seqS h__law_right_13 (seqS h__law_right_14 (seqS h__law_right_15 h__law_right_16)))))))))))]
    rfl
  by_cases hle : L ≤ H
  · have tt := p_truth_yes sk e hle
    have hf := (fit_rows ok h1 h8 e).mpr hle
    have tf := p_fitting (logR_ok ok h1 h8) hf
    have st5 := r5 (potO a3 b c3) (2 + r1) w (Wd (rowsD rows)) x y (logD (logR rows)) tt tf
    have st6 : ∀ z, h__law_right_6 (stq (potO a3 b c3) (2 + r1) (Wd (rowsD rows)) w x z [Wd (logD (logR rows)), Wd (srD rows), U, U, Wd (.tup [.str "spans", .tup [srcD (L, H)]]), Wd (.tup [.str "course", .tup ((courseL (logR rows) ".").map D.int)]), U, U, U, U, U, U, U]) = some (.nx (stq (potO a3 b c3) (2 + r1) (Wd (rowsD rows)) w x z [Wd (logD (logR rows)), Wd (srD rows), U, U, Wd (.tup [.str "spans", .tup [srcD (L, H)]]), Wd (.tup [.str "course", .tup ((courseL (logR rows) ".").map D.int)]), U, U, U, U, U, U, U])) := fun z => by
      show ifS _ _ _ _ = _
      simp [ss1, ss3, eqB]
    have st7 := r7 e h8 (potO a3 b c3) (2 + r1) w (Wd (rowsD rows)) x y uy (logD (logR rows)) (.tup [.str "spans", .tup [srcD (L, H)]]) (.tup [.str "course", .tup ((courseL (logR rows) ".").map D.int)])
    have st8 := r8 sk e (potO a3 b c3) (2 + r1) w (Wd (rowsD rows)) x (logD (logR rows)) (.tup [.str "course", .tup ((courseL (logR rows) ".").map D.int)]) (t0 := "spans") (tr := [.tup [srcD (L, H)]]) (by rw [ss1, decide_eq_true hle])
    have st9 := r9 sk e (potO a3 b c3) (2 + r1) w hmn (Wd (rowsD rows)) x (Wd (logD (logR rows))) (Wd (.tup [.str "spans", .tup [srcD (L, H)]])) (Wd (.tup [.str "course", .tup ((courseL (logR rows) ".").map D.int)]))
    have st10 : h__law_right_10 (stq (potO a3 b c3) (2 + r1) (Wd (rowsD rows)) w x (Wd (.int L)) [Wd (logD (logR rows)), Wd (srD rows), Wd (.int H), U, Wd (.tup [.str "spans", .tup [srcD (L, H)]]), Wd (.tup [.str "course", .tup ((courseL (logR rows) ".").map D.int)]), U, U, U, U, U, U, U]) = some (.nx (stq (potO a3 b c3) (2 + r1) (Wd (rowsD rows)) w x (Wd (.int L)) [Wd (logD (logR rows)), Wd (srD rows), Wd (.int H), U, Wd (.tup [.str "spans", .tup [srcD (L, H)]]), Wd (.tup [.str "course", .tup ((courseL (logR rows) ".").map D.int)]), U, U, U, U, U, U, U])) := by
      have sc : hC__law_right_10 (stq (potO a3 b c3) (2 + r1) (Wd (rowsD rows)) w x (Wd (.int L)) [Wd (logD (logR rows)), Wd (srD rows), Wd (.int H), U, Wd (.tup [.str "spans", .tup [srcD (L, H)]]), Wd (.tup [.str "course", .tup ((courseL (logR rows) ".").map D.int)]), U, U, U, U, U, U, U]) = some (false, stq (potO a3 b c3) (2 + r1) (Wd (rowsD rows)) w x (Wd (.int L)) [Wd (logD (logR rows)), Wd (srD rows), Wd (.int H), U, Wd (.tup [.str "spans", .tup [srcD (L, H)]]), Wd (.tup [.str "course", .tup ((courseL (logR rows) ".").map D.int)]), U, U, U, U, U, U, U]) := by
        simp [hC__law_right_10, ss6]
      show ifS hC__law_right_10 hA__law_right_10 hE__law_right_10 _ = _
      rw [ev_if, sc]
      rfl
    have st11 := r11 sk e hle (potO a3 b c3) (2 + r1) w hmn (Wd (rowsD rows)) x (Wd (logD (logR rows))) (Wd (.tup [.str "course", .tup ((courseL (logR rows) ".").map D.int)]))
    have st12 := r12 ok h1 h8 sk e hle (potO a3 b c3) (2 + r1) w hmn (Wd (rowsD rows)) x (Wd (.tup [.str "spans", .tup [srcD (L, H)]])) (Wd (.tup [.str "course", .tup ((courseL (logR rows) ".").map D.int)]))
    obtain ⟨T, t1', t2', r13'⟩ := r13 ok h1 h8 e hle
    have st13 := r13' (potO a3 b c3) (2 + r1) w (Wd (rowsD rows)) x (Wd (srD rows)) (Wd (.int H)) (Wd (.tup [.str "spans", .tup [srcD (L, H)]]))
    have st14 := r14 ok h1 h8 sk e t1' t2' (potO a3 b c3) (2 + r1) w hmn (Wd (rowsD rows)) x (Wd (logD (logR rows))) (Wd (.int H)) (Wd (.tup [.str "spans", .tup [srcD (L, H)]])) (Wd (.tup [.str "course", .tup ((courseL (logR rows) ".").map D.int)]))
    obtain ⟨ρ, st15, hρ⟩ := last_end ok h2 h8 e hle (potO a3 b c3) (2 + r1) w hmn (Wd (rowsD rows)) x (Wd (.int L)) (Wd (.int H)) (Wd (.tup [.str "spans", .tup [srcD (L, H)]])) (Wd (.tup [.str "course", .tup ((courseL (logR rows) ".").map D.int)])) (Wd (.tup (List.replicate rows.length (.int T))))
    refine ⟨a3, c3, ?_, t0, by omega, by omega⟩
    rw [body, seq_of st5, seq_of (st6 y), seq_of st7, seq_of st8, seq_of st9, seq_of st10, seq_of st11, seq_of st12, seq_of st13, seq_of st14, st15]
    dsimp only
    rw [hρ]
  · obtain ⟨k, tt⟩ := p_truth_no sk e (by omega)
    obtain ⟨r, tf⟩ := p_fitting_no (logR_ok ok h1 h8) (fun z => hle ((fit_rows ok h1 h8 e).mp z))
    have st5 := r5 (potO a3 b c3) (2 + r1) w (Wd (rowsD rows)) x y (logD (logR rows)) tt tf
    have st6 : ∀ z, h__law_right_6 (stq (potO a3 b c3) (2 + r1) (Wd (rowsD rows)) w x z [Wd (logD (logR rows)), Wd (srD rows), U, U, Wd (.tup [.str "more", .int k]), Wd (.tup [.str "ring", .tup r]), U, U, U, U, U, U, U]) = some (.nx (stq (potO a3 b c3) (2 + r1) (Wd (rowsD rows)) w x z [Wd (logD (logR rows)), Wd (srD rows), U, U, Wd (.tup [.str "more", .int k]), Wd (.tup [.str "ring", .tup r]), U, U, U, U, U, U, U])) := fun z => by
      show ifS _ _ _ _ = _
      simp [ss2, ss4, eqB]
    have st7 := r7 e h8 (potO a3 b c3) (2 + r1) w (Wd (rowsD rows)) x y uy (logD (logR rows)) (.tup [.str "more", .int k]) (.tup [.str "ring", .tup r])
    have st8 := r8 sk e (potO a3 b c3) (2 + r1) w (Wd (rowsD rows)) x (logD (logR rows)) (.tup [.str "ring", .tup r]) (t0 := "more") (tr := [.int k]) (by rw [ss2, decide_eq_false hle])
    have st9 := r9 sk e (potO a3 b c3) (2 + r1) w hmn (Wd (rowsD rows)) x (Wd (logD (logR rows))) (Wd (.tup [.str "more", .int k])) (Wd (.tup [.str "ring", .tup r]))
    obtain ⟨a4, c4, ρ, st10, hρ, u0, u1, u2⟩ := more_end ok h2 h8 p3 (2 + r1) w hmn x (Wd (.int L)) ux (logD (logR rows)) (.tup [.str "ring", .tup r]) (.int k) (.int H)
    refine ⟨a4, c4, ?_, u0, by omega, by omega⟩
    rw [body, seq_of st5, seq_of (st6 y), seq_of st7, seq_of st8, seq_of st9, ev_seq, st10]
    dsimp only
    rw [hρ]
end Hk98
/-! text K98W -/
set_option Elab.async false
set_option linter.all false
set_option maxRecDepth 100000
set_option maxHeartbeats 0
namespace Hk98
open PySem PySem.Spec PyProof.Rows L2 Dl Mi
theorem hu2 {k : Nat} {A : Around} (hr : Room k A) : A.units + 1 + 1 < cLine := by
  have := hr.units
  omega
section
variable {P : Program} {w : World} {K : PySem.W.Frag} {mg : Str → Option Value} {base : Heap}
/-! ### _law_cells -/
abbrev N__law_cells : List Str := ["script", "most"]
abbrev s__law_cells : Stmt := top 87
theorem sc__law_cells : FnScope N__law_cells ["script", "most"] (defScope s__law_cells) := ⟨rfl, rfl, rfl, by decide +kernel, rfl, by decide +kernel, by decide +kernel⟩
theorem okF__law_cells (e : En fa pr fn K mg) {fd : FuncData} (F : Fun K "_law_cells" "_law_cells" s__law_cells ((.glob "_law_cells" : Dz.Loc).ad K) fd) : FnOk P w K mg base CX0 1 ((.glob "_law_cells" : Dz.Loc).ad K) fd ["script", "most"] (spP K 2 m__law_cells) := by
  refine fn_P (N := N__law_cells) (ps := ["script", "most"]) (g := g__law_cells) F sc__law_cells (by decide) (fun cdv A outer s H E hr => ?_)
  have nd : N__law_cells.Nodup := sc__law_cells.nd
  unfold g__law_cells
  exact (s_one (s_ret (x_lstRg rfl rfl (e.free 84) (r_1 rfl (e.free 83) (xd (cvCall co_max2 (pe_callB (call_max2 rfl) rfl (e.free 90) boot_max (l_cons x_int (l_cons (xd (cvCall co_min2 (pe_callB (call_min2 rfl) rfl (e.free 91) boot_min (l_cons (x_v (pv 1)) (l_cons (xd (cvCall co_len (pe_callB call_len rfl (e.free 82) boot_len (l_cons (x_v (pv 0)) l_nil)))) l_nil))))) l_nil)))))))))
theorem ok__law_cells (e : En fa pr fn K mg) : ∃ fd, FnOk P w K mg base CX0 1 ((.glob "_law_cells" : Dz.Loc).ad K) fd ["script", "most"] (spP K 2 m__law_cells) ∧ Binds K fd ["script", "most"] [] ∧ PySem.W.keepIn K (.ref ((.glob "_law_cells" : Dz.Loc).ad K)) = true := by
  obtain ⟨fd, F⟩ := e.def_ 65 (d := ⟨.glob "_law_cells", "_law_cells", "_law_cells", s__law_cells⟩)
  exact ⟨fd, okF__law_cells e F, F.binds (fun _ _ _ _ _ _ us hl => match us, hl with | [_, _], _ => rfl), F.kp⟩
/-! ### Reach.most -/
abbrev N_Reach_most : List Str := ["self", "one", "other"]
abbrev s_Reach_most : Stmt := inClass (top 77) 5
theorem sc_Reach_most : FnScope N_Reach_most ["self", "one", "other"] (defScope s_Reach_most) := ⟨rfl, rfl, rfl, by decide +kernel, rfl, by decide +kernel, by decide +kernel⟩
theorem okF_Reach_most (e : En fa pr fn K mg) {fd : FuncData} (F : Fun K "most" "Reach.most" s_Reach_most ((.meth "Reach" "most" : Dz.Loc).ad K) fd) : FnOk P w K mg base CX0 1 ((.meth "Reach" "most" : Dz.Loc).ad K) fd ["self", "one", "other"] (spP K 3 m_Reach_most) := by
  refine fn_P (N := N_Reach_most) (ps := ["self", "one", "other"]) (g := g_Reach_most) F sc_Reach_most (by decide) (fun cdv A outer s H E hr => ?_)
  have nd : N_Reach_most.Nodup := sc_Reach_most.nd
  unfold g_Reach_most
  exact (s_one (s_ret (xo (x_sub (hu_of hr) (x_p (p_fd (pv 0) (e.cls 126) (e.noat 129))) (x_tup (l_cons (x_v (pv 1)) (l_cons (x_v (pv 2)) l_nil)))))))
theorem ok_Reach_most (e : En fa pr fn K mg) : ∃ fd, FnOk P w K mg base CX0 1 ((.meth "Reach" "most" : Dz.Loc).ad K) fd ["self", "one", "other"] (spP K 3 m_Reach_most) ∧ Binds K fd ["self", "one", "other"] [] ∧ PySem.W.keepIn K (.ref ((.meth "Reach" "most" : Dz.Loc).ad K)) = true := by
  obtain ⟨fd, F⟩ := e.def_ 55 (d := ⟨.meth "Reach" "most", "most", "Reach.most", s_Reach_most⟩)
  exact ⟨fd, okF_Reach_most e F, F.binds (fun _ _ _ _ _ _ us hl => match us, hl with | [_, _, _], _ => rfl), F.kp⟩
/-! ### Log.town_at -/
abbrev N_Log_town_at : List Str := ["self", "deed"]
abbrev s_Log_town_at : Stmt := inClass (top 55) 9
theorem sc_Log_town_at : FnScope N_Log_town_at ["self", "deed"] (defScope s_Log_town_at) := ⟨rfl, rfl, rfl, by decide +kernel, rfl, by decide +kernel, by decide +kernel⟩
theorem okF_Log_town_at (e : En fa pr fn K mg) {fd : FuncData} (F : Fun K "town_at" "Log.town_at" s_Log_town_at ((.meth "Log" "town_at" : Dz.Loc).ad K) fd) : FnOk P w K mg base CX0 1 ((.meth "Log" "town_at" : Dz.Loc).ad K) fd ["self", "deed"] (spP K 2 m_Log_town_at) := by
  refine fn_P (N := N_Log_town_at) (ps := ["self", "deed"]) (g := g_Log_town_at) F sc_Log_town_at (by decide) (fun cdv A outer s H E hr => ?_)
  have nd : N_Log_town_at.Nodup := sc_Log_town_at.nd
  unfold g_Log_town_at
  exact (s_one (s_ret (xo (x_sub (hu_of hr) (x_sub (hu_of hr) (x_p (p_fd (pv 0) (e.cls 113) (e.noat 114))) (x_v (pv 1))) x_int))))
theorem ok_Log_town_at (e : En fa pr fn K mg) : ∃ fd, FnOk P w K mg base CX0 1 ((.meth "Log" "town_at" : Dz.Loc).ad K) fd ["self", "deed"] (spP K 2 m_Log_town_at) ∧ Binds K fd ["self", "deed"] [] ∧ PySem.W.keepIn K (.ref ((.meth "Log" "town_at" : Dz.Loc).ad K)) = true := by
  obtain ⟨fd, F⟩ := e.def_ 36 (d := ⟨.meth "Log" "town_at", "town_at", "Log.town_at", s_Log_town_at⟩)
  exact ⟨fd, okF_Log_town_at e F, F.binds (fun _ _ _ _ _ _ us hl => match us, hl with | [_, _], _ => rfl), F.kp⟩
/-! ### Log.shown_at -/
abbrev N_Log_shown_at : List Str := ["self", "deed"]
abbrev s_Log_shown_at : Stmt := inClass (top 55) 10
theorem sc_Log_shown_at : FnScope N_Log_shown_at ["self", "deed"] (defScope s_Log_shown_at) := ⟨rfl, rfl, rfl, by decide +kernel, rfl, by decide +kernel, by decide +kernel⟩
theorem okF_Log_shown_at (e : En fa pr fn K mg) {fd : FuncData} (F : Fun K "shown_at" "Log.shown_at" s_Log_shown_at ((.meth "Log" "shown_at" : Dz.Loc).ad K) fd) : FnOk P w K mg base CX0 1 ((.meth "Log" "shown_at" : Dz.Loc).ad K) fd ["self", "deed"] (spP K 2 m_Log_shown_at) := by
  refine fn_P (N := N_Log_shown_at) (ps := ["self", "deed"]) (g := g_Log_shown_at) F sc_Log_shown_at (by decide) (fun cdv A outer s H E hr => ?_)
  have nd : N_Log_shown_at.Nodup := sc_Log_shown_at.nd
  unfold g_Log_shown_at
  exact (s_one (s_ret (xo (x_sub (hu_of hr) (x_sub (hu_of hr) (x_p (p_fd (pv 0) (e.cls 113) (e.noat 114))) (x_v (pv 1))) x_int))))
theorem ok_Log_shown_at (e : En fa pr fn K mg) : ∃ fd, FnOk P w K mg base CX0 1 ((.meth "Log" "shown_at" : Dz.Loc).ad K) fd ["self", "deed"] (spP K 2 m_Log_shown_at) ∧ Binds K fd ["self", "deed"] [] ∧ PySem.W.keepIn K (.ref ((.meth "Log" "shown_at" : Dz.Loc).ad K)) = true := by
  obtain ⟨fd, F⟩ := e.def_ 37 (d := ⟨.meth "Log" "shown_at", "shown_at", "Log.shown_at", s_Log_shown_at⟩)
  exact ⟨fd, okF_Log_shown_at e F, F.binds (fun _ _ _ _ _ _ us hl => match us, hl with | [_, _], _ => rfl), F.kp⟩
/-! ### span_by -/
abbrev N_span_by : List Str := ["log", "reach", "deed", "shown", "town"]
abbrev s_span_by : Stmt := top 81
theorem sc_span_by : FnScope N_span_by ["log", "reach", "deed"] (defScope s_span_by) := ⟨rfl, rfl, rfl, by decide +kernel, rfl, by decide +kernel, by decide +kernel⟩
theorem okF_span_by (e : En fa pr fn K mg) {fd : FuncData} (F : Fun K "span_by" "span_by" s_span_by ((.glob "span_by" : Dz.Loc).ad K) fd) : FnOk P w K mg base CX0 2 ((.glob "span_by" : Dz.Loc).ad K) fd ["log", "reach", "deed"] (spP K 3 m_span_by) := by
  obtain ⟨fd_Reach_most, F_Reach_most, b_Reach_most, k_Reach_most⟩ := ok_Reach_most (P := P) (w := w) (base := base) e
  obtain ⟨fd_Log_town_at, F_Log_town_at, b_Log_town_at, k_Log_town_at⟩ := ok_Log_town_at (P := P) (w := w) (base := base) e
  obtain ⟨fd_Log_shown_at, F_Log_shown_at, b_Log_shown_at, k_Log_shown_at⟩ := ok_Log_shown_at (P := P) (w := w) (base := base) e
  refine fn_P (N := N_span_by) (ps := ["log", "reach", "deed"]) (g := g_span_by) F sc_span_by (by decide) (fun cdv A outer s H E hr => ?_)
  have nd : N_span_by.Nodup := sc_span_by.nd
  unfold g_span_by
  exact (s_cons (imS (ps_par (i := 3) (j := 4) rfl nd rfl rfl (by decide) rfl rfl (lo_cons (xo (xd (cvMethP (pe_meth (x_v (pv 0)) (e.cls 113) (e.meth 125) (F_Log_shown_at.mono (by decide)) hr b_Log_shown_at .nil pass0 (l_cons (x_v (pv 2)) l_nil))))) (lo_cons (xo (xd (cvMethP (pe_meth (x_v (pv 0)) (e.cls 113) (e.meth 124) (F_Log_town_at.mono (by decide)) hr b_Log_town_at .nil pass0 (l_cons (x_v (pv 2)) l_nil))))) lo_nil)) rfl) fun _ _ _ w => tS_parO (by decide) _ _ _ w)
  (s_one (s_ret (xo (x_tup (l_cons (x_op op_addA rd_addA (x_v (pv 3)) (xd (cvMethP (pe_meth (x_v (pv 1)) (e.cls 126) (e.meth 138) (F_Reach_most.mono (by decide)) hr b_Reach_most .nil pass0 (l_cons (x_v (pv 4)) (l_cons (x_gS rfl (e.str 77)) l_nil)))))) (l_cons (x_op op_sub rd_sub (x_v (pv 3)) (xd (cvMethP (pe_meth (x_v (pv 1)) (e.cls 126) (e.meth 138) (F_Reach_most.mono (by decide)) hr b_Reach_most .nil pass0 (l_cons (x_gS rfl (e.str 77)) (l_cons (x_v (pv 4)) l_nil)))))) l_nil)))))))
theorem ok_span_by (e : En fa pr fn K mg) : ∃ fd, FnOk P w K mg base CX0 2 ((.glob "span_by" : Dz.Loc).ad K) fd ["log", "reach", "deed"] (spP K 3 m_span_by) ∧ Binds K fd ["log", "reach", "deed"] [] ∧ PySem.W.keepIn K (.ref ((.glob "span_by" : Dz.Loc).ad K)) = true := by
  obtain ⟨fd, F⟩ := e.def_ 60 (d := ⟨.glob "span_by", "span_by", "span_by", s_span_by⟩)
  exact ⟨fd, okF_span_by e F, F.binds (fun _ _ _ _ _ _ us hl => match us, hl with | [_, _, _], _ => rfl), F.kp⟩
/-! ### Reach.ring -/
abbrev N_Reach_ring : List Str := ["self"]
abbrev s_Reach_ring : Stmt := inClass (top 77) 4
theorem sc_Reach_ring : FnScope N_Reach_ring ["self"] (defScope s_Reach_ring) := ⟨rfl, rfl, rfl, by decide +kernel, rfl, by decide +kernel, by decide +kernel⟩
theorem okF_Reach_ring (e : En fa pr fn K mg) {fd : FuncData} (F : Fun K "ring" "Reach.ring" s_Reach_ring ((.meth "Reach" "ring" : Dz.Loc).ad K) fd) : FnOk P w K mg base CX0 1 ((.meth "Reach" "ring" : Dz.Loc).ad K) fd ["self"] (spP K 1 m_Reach_ring) := by
  refine fn_P (N := N_Reach_ring) (ps := ["self"]) (g := g_Reach_ring) F sc_Reach_ring (by decide) (fun cdv A outer s H E hr => ?_)
  have nd : N_Reach_ring.Nodup := sc_Reach_ring.nd
  unfold g_Reach_ring
  exact (s_one (s_ret (xo (x_p (p_fd (pv 0) (e.cls 126) (e.noat 130))))))
theorem ok_Reach_ring (e : En fa pr fn K mg) : ∃ fd, FnOk P w K mg base CX0 1 ((.meth "Reach" "ring" : Dz.Loc).ad K) fd ["self"] (spP K 1 m_Reach_ring) ∧ Binds K fd ["self"] [] ∧ PySem.W.keepIn K (.ref ((.meth "Reach" "ring" : Dz.Loc).ad K)) = true := by
  obtain ⟨fd, F⟩ := e.def_ 54 (d := ⟨.meth "Reach" "ring", "ring", "Reach.ring", s_Reach_ring⟩)
  exact ⟨fd, okF_Reach_ring e F, F.binds (fun _ _ _ _ _ _ us hl => match us, hl with | [_], _ => rfl), F.kp⟩
/-! ### Reach.take -/
abbrev N_Reach_take : List Str := ["self", "begin", "middle", "end", "by"]
abbrev s_Reach_take : Stmt := inClass (top 77) 3
theorem sc_Reach_take : FnScope N_Reach_take ["self", "begin", "middle", "end"] (defScope s_Reach_take) := ⟨rfl, rfl, rfl, by decide +kernel, rfl, by decide +kernel, by decide +kernel⟩
theorem okF_Reach_take (e : En fa pr fn K mg) {fd : FuncData} (F : Fun K "take" "Reach.take" s_Reach_take ((.meth "Reach" "take" : Dz.Loc).ad K) fd) : FnOk P w K mg base CX0 1 ((.meth "Reach" "take" : Dz.Loc).ad K) fd ["self", "begin", "middle", "end"] (spR K 4 m_Reach_take) := by
  refine fn_R (N := N_Reach_take) (ps := ["self", "begin", "middle", "end"]) (g := g_Reach_take) F sc_Reach_take (by decide) (fun cdv A outer s H E hr => ?_)
  have nd : N_Reach_take.Nodup := sc_Reach_take.nd
  unfold g_Reach_take
  exact (s_one (s_if (t_w (w_and (t_inP (hu_of hr) (x_tup (l_cons (x_v (pv 1)) (l_cons (x_v (pv 2)) l_nil))) (p_fd (pv 0) (e.cls 126) (e.noat 129))) (w_one (t_inP (hu_of hr) (x_tup (l_cons (x_v (pv 2)) (l_cons (x_v (pv 3)) l_nil))) (p_fd (pv 0) (e.cls 126) (e.noat 129))))))
  (s_cons (s_set (i := 4) nd rfl (by first | exact .inl rfl | exact .inr rfl) (xo (x_op op_addA rd_addA (x_subP (hu_of hr) (p_fd (pv 0) (e.cls 126) (e.noat 129)) (x_tup (l_cons (x_v (pv 1)) (l_cons (x_v (pv 2)) l_nil)))) (x_subP (hu_of hr) (p_fd (pv 0) (e.cls 126) (e.noat 129)) (x_tup (l_cons (x_v (pv 2)) (l_cons (x_v (pv 3)) l_nil)))))))
  (s_one (s_if (t_w (w_or (t_notInP (hu_of hr) (x_tup (l_cons (x_v (pv 1)) (l_cons (x_v (pv 3)) l_nil))) (p_fd (pv 0) (e.cls 126) (e.noat 129))) (w_one (t_cmp op_gt rd_gt (x_v (pv 4)) (x_subP (hu_of hr) (p_fd (pv 0) (e.cls 126) (e.noat 129)) (x_tup (l_cons (x_v (pv 1)) (l_cons (x_v (pv 3)) l_nil)))) (nomark _)))))
  (s_cons (s_asG (x_v (pv 4)) (sg_sub (hu_of hr) (p_fd (pv 0) (e.cls 126) (e.noat 129)) (x_tup (l_cons (x_v (pv 1)) (l_cons (x_v (pv 3)) l_nil)))))
  (s_one (s_asG (x_subP (hu_of hr) (p_fd (pv 0) (e.cls 126) (e.noat 128)) (x_tup (l_cons (x_v (pv 1)) (l_cons (x_v (pv 2)) l_nil)))) (sg_sub (hu_of hr) (p_fd (pv 0) (e.cls 126) (e.noat 128)) (x_tup (l_cons (x_v (pv 1)) (l_cons (x_v (pv 3)) l_nil)))))))
  s_nil)))
  s_nil))
theorem ok_Reach_take (e : En fa pr fn K mg) : ∃ fd, FnOk P w K mg base CX0 1 ((.meth "Reach" "take" : Dz.Loc).ad K) fd ["self", "begin", "middle", "end"] (spR K 4 m_Reach_take) ∧ Binds K fd ["self", "begin", "middle", "end"] [] ∧ PySem.W.keepIn K (.ref ((.meth "Reach" "take" : Dz.Loc).ad K)) = true := by
  obtain ⟨fd, F⟩ := e.def_ 53 (d := ⟨.meth "Reach" "take", "take", "Reach.take", s_Reach_take⟩)
  exact ⟨fd, okF_Reach_take e F, F.binds (fun _ _ _ _ _ _ us hl => match us, hl with | [_, _, _, _], _ => rfl), F.kp⟩
/-! ### Reach.go -/
abbrev N_Reach_go : List Str := ["self", "row", "begin", "end", "by", "step", "middle"]
abbrev s_Reach_go : Stmt := inClass (top 77) 2
theorem sc_Reach_go : FnScope N_Reach_go ["self"] (defScope s_Reach_go) := ⟨rfl, rfl, rfl, by decide +kernel, rfl, by decide +kernel, by decide +kernel⟩
theorem okF_Reach_go (e : En fa pr fn K mg) {fd : FuncData} (F : Fun K "go" "Reach.go" s_Reach_go ((.meth "Reach" "go" : Dz.Loc).ad K) fd) : FnOk P w K mg base CX0 2 ((.meth "Reach" "go" : Dz.Loc).ad K) fd ["self"] (spR K 1 m_Reach_go) := by
  obtain ⟨fd_Reach_take, F_Reach_take, b_Reach_take, k_Reach_take⟩ := ok_Reach_take (P := P) (w := w) (base := base) e
  refine fn_R (N := N_Reach_go) (ps := ["self"]) (g := g_Reach_go) F sc_Reach_go (by decide) (fun cdv A outer s H E hr => ?_)
  have nd : N_Reach_go.Nodup := sc_Reach_go.nd
  unfold g_Reach_go
  exact (s_cons (s_for (vs := [1]) PassesOwn.never rfl (i_any (x_p (p_fd (pv 0) (e.cls 126) (e.noat 131)))) (g_name nd rfl (by first | exact .inl rfl | exact .inr rfl))
  (s_cons (s_asG (x_v (pv 1)) (sg_tup rfl (sg_cons (sg_name (i := 2) nd rfl (by first | exact .inl rfl | exact .inr rfl)) (sg_cons (sg_name (i := 3) nd rfl (by first | exact .inl rfl | exact .inr rfl)) (sg_cons (sg_name (i := 4) nd rfl (by first | exact .inl rfl | exact .inr rfl)) (sg_cons (sg_name (i := 5) nd rfl (by first | exact .inl rfl | exact .inr rfl)) sg_nil))))))
  (s_one (s_if (t_w (w_and (t_cmp (op_neD hr.units) rd_neD (x_v (pv 2)) (x_v (pv 3)) (nomark _)) (w_one (t_w (w_or (t_notInP (hu_of hr) (x_tup (l_cons (x_v (pv 2)) (l_cons (x_v (pv 3)) l_nil))) (p_fd (pv 0) (e.cls 126) (e.noat 129))) (w_one (t_cmp op_gt rd_gt (x_v (pv 4)) (x_subP (hu_of hr) (p_fd (pv 0) (e.cls 126) (e.noat 129)) (x_tup (l_cons (x_v (pv 2)) (l_cons (x_v (pv 3)) l_nil)))) (nomark _))))))))
  (s_one (s_asG (x_tup (l_cons (x_v (pv 4)) (l_cons (x_v (pv 1)) l_nil))) (sg_tup rfl (sg_cons (sg_sub (hu_of hr) (p_fd (pv 0) (e.cls 126) (e.noat 129)) (x_tup (l_cons (x_v (pv 2)) (l_cons (x_v (pv 3)) l_nil)))) (sg_cons (sg_sub (hu_of hr) (p_fd (pv 0) (e.cls 126) (e.noat 128)) (x_tup (l_cons (x_v (pv 2)) (l_cons (x_v (pv 3)) l_nil)))) sg_nil)))))
  s_nil))))
  (s_one (s_for (vs := [6]) PassesOwn.never rfl (i_any (x_p (p_fd (pv 0) (e.cls 126) (e.noat 127)))) (g_name nd rfl (by first | exact .inl rfl | exact .inr rfl))
  (s_one (s_for (vs := [2]) PassesOwn.never rfl (i_any (x_p (p_fd (pv 0) (e.cls 126) (e.noat 127)))) (g_name nd rfl (by first | exact .inl rfl | exact .inr rfl))
  (s_one (s_for (vs := [3]) PassesOwn.never rfl (i_any (x_p (p_fd (pv 0) (e.cls 126) (e.noat 127)))) (g_name nd rfl (by first | exact .inl rfl | exact .inr rfl))
  (s_one (s_expr (xd (cvMethR (pe_meth (pv 0) (e.cls 126) (e.meth 136) (F_Reach_take.mono (by decide)) hr b_Reach_take .nil pass0 (l_cons (x_v (pv 2)) (l_cons (x_v (pv 6)) (l_cons (x_v (pv 3)) l_nil)))))))))))))))
theorem ok_Reach_go (e : En fa pr fn K mg) : ∃ fd, FnOk P w K mg base CX0 2 ((.meth "Reach" "go" : Dz.Loc).ad K) fd ["self"] (spR K 1 m_Reach_go) ∧ Binds K fd ["self"] [] ∧ PySem.W.keepIn K (.ref ((.meth "Reach" "go" : Dz.Loc).ad K)) = true := by
  obtain ⟨fd, F⟩ := e.def_ 52 (d := ⟨.meth "Reach" "go", "go", "Reach.go", s_Reach_go⟩)
  exact ⟨fd, okF_Reach_go e F, F.binds (fun _ _ _ _ _ _ us hl => match us, hl with | [_], _ => rfl), F.kp⟩
/-! ### Reach.found_ring -/
abbrev N_Reach_found_ring : List Str := ["self", "ahead", "back", "last", "clock", "lap", "row", "begin", "end", "by", "step", "first", "found"]
abbrev s_Reach_found_ring : Stmt := inClass (top 77) 1
theorem sc_Reach_found_ring : FnScope N_Reach_found_ring ["self"] (defScope s_Reach_found_ring) := ⟨rfl, rfl, rfl, by decide +kernel, rfl, by decide +kernel, by decide +kernel⟩
theorem okF_Reach_found_ring (e : En fa pr fn K mg) {fd : FuncData} (F : Fun K "found_ring" "Reach.found_ring" s_Reach_found_ring ((.meth "Reach" "found_ring" : Dz.Loc).ad K) fd) : FnOk P w K mg base CX0 1 ((.meth "Reach" "found_ring" : Dz.Loc).ad K) fd ["self"] (spR K 1 m_Reach_found_ring) := by
  refine fn_R (N := N_Reach_found_ring) (ps := ["self"]) (g := g_Reach_found_ring) F sc_Reach_found_ring (by decide) (fun cdv A outer s H E hr => ?_)
  have nd : N_Reach_found_ring.Nodup := sc_Reach_found_ring.nd
  unfold g_Reach_found_ring
  exact (s_cons (imS (ps_par3 (i := 1) (j := 2) (l := 3) rfl nd rfl rfl rfl (by decide) (by decide) (by decide) rfl rfl rfl (lo_cons (cvCall co_dictK (pe_callTy (call_dictP rfl) rfl (e.free 86) boot_dict (l_cons (xd (x_lc (own := [("clock", 4)]) rfl nd (i_any (x_p (p_fd (pv 0) (e.cls 126) (e.noat 127)))) (blkOk_by (N := N_Reach_found_ring) (sc := defScope s_Reach_found_ring) (by decide +kernel)) (by decide) onlyN (fun _ _ _ _ _ => (g_name nd rfl (by first | exact .inl rfl | exact .inr rfl))) (fun _ _ _ _ _ => ts_nil) (fun _ _ _ _ _ => (x_tup (l_cons (x_v (pv 4)) (l_cons x_int l_nil)))))) l_nil))) (lo_cons x_newK (lo_cons (xo x_non) lo_nil))) rfl) fun _ _ _ w => tS_parO3 (by decide) (by decide) (by decide) _ _ _ w)
  (s_cons (s_for (vs := [5]) PassesOwn.never rfl (cvRng1 (pi_range1 rfl (e.free 83) (l_cons (x_op op_addA rd_addA (xd (cvCall co_len (pe_callB call_len rfl (e.free 82) boot_len (l_cons (x_p (p_fd (pv 0) (e.cls 126) (e.noat 127))) l_nil)))) x_int) l_nil))) (g_name nd rfl (by first | exact .inl rfl | exact .inr rfl))
  (s_cons (s_set (i := 3) nd rfl (by first | exact .inl rfl | exact .inr rfl) (xo x_non))
  (s_cons (s_for (vs := [6]) PassesOwn.never rfl (i_any (x_p (p_fd (pv 0) (e.cls 126) (e.noat 131)))) (g_name nd rfl (by first | exact .inl rfl | exact .inr rfl))
  (s_cons (s_asG (x_v (pv 6)) (sg_tup rfl (sg_cons (sg_name (i := 7) nd rfl (by first | exact .inl rfl | exact .inr rfl)) (sg_cons (sg_name (i := 8) nd rfl (by first | exact .inl rfl | exact .inr rfl)) (sg_cons (sg_name (i := 9) nd rfl (by first | exact .inl rfl | exact .inr rfl)) (sg_cons (sg_name (i := 10) nd rfl (by first | exact .inl rfl | exact .inr rfl)) sg_nil))))))
  (s_one (s_if (t_cmp op_gt rd_gt (x_op op_addA rd_addA (x_subP (hu_of hr) (p_sl (pv 1)) (x_v (pv 7))) (x_v (pv 9))) (x_subP (hu_of hr) (p_sl (pv 1)) (x_v (pv 8))) (nomark _))
  (s_one (s_asG (x_tup (l_cons (x_op op_addA rd_addA (x_subP (hu_of hr) (p_sl (pv 1)) (x_v (pv 7))) (x_v (pv 9))) (l_cons (x_v (pv 6)) (l_cons (x_v (pv 8)) l_nil)))) (sg_tup rfl (sg_cons (sg_sub (hu_of hr) (p_sl (pv 1)) (x_v (pv 8))) (sg_cons (sg_sub (hu_of hr) (p_sl (pv 2)) (x_v (pv 8))) (sg_cons (sg_name (i := 3) nd rfl (by first | exact .inl rfl | exact .inr rfl)) sg_nil))))))
  s_nil))))
  (s_one (s_if (t_cmp op_isN rd_is (x_v (pv 3)) x_non (nomark _))
  (s_one (s_ret (xo x_non)))
  s_nil)))))
  (s_cons (s_for (vs := [5]) PassesOwn.never rfl (i_any (x_p (p_fd (pv 0) (e.cls 126) (e.noat 127)))) (g_name nd rfl (by first | exact .inl rfl | exact .inr rfl))
  (s_one (s_set (i := 3) nd rfl (by first | exact .inl rfl | exact .inr rfl) (xo (x_sub (hu_of hr) (x_subP (hu_of hr) (p_sl (pv 2)) (x_v (pv 3))) x_int)))))
  (s_cons (imS (ps_par (i := 11) (j := 12) rfl nd rfl rfl (by decide) rfl rfl (lo_cons (xo (x_v (pv 3))) (lo_cons (x_lst l_nil) lo_nil)) rfl) fun _ _ _ w => tS_parO (by decide) _ _ _ w)
  (s_cons (s_while 200 PassesOwn.never (t_w (w_or (t_eqP hr.units (p_sl (pv 12)) (xd (x_lst l_nil))) (w_one (t_cmp (op_neD hr.units) rd_neD (x_v (pv 3)) (x_v (pv 11)) (nomark _)))))
  (s_cons (cvApp (by rfl) (pe_bm PySem.F.plainAttrs_list PySem.F.slot_list_append PySem.F.type_list_append mt_append (p_sl (pv 12)) (pa_cons (x_sub (hu_of hr) (x_subP (hu_of hr) (p_sl (pv 2)) (x_v (pv 3))) x_int) pa_nil)))
  (s_one (s_set (i := 3) nd rfl (by first | exact .inl rfl | exact .inr rfl) (xo (x_sub (hu_of hr) (x_subP (hu_of hr) (p_sl (pv 2)) (x_v (pv 3))) x_int))))))
  (s_one (s_ret (cvCall co_tuple (pe_callTy call_tuple_of rfl (e.free 85) boot_tuple (l_cons (xd (x_revP (p_sl (pv 12)))) l_nil))))))))))
theorem ok_Reach_found_ring (e : En fa pr fn K mg) : ∃ fd, FnOk P w K mg base CX0 1 ((.meth "Reach" "found_ring" : Dz.Loc).ad K) fd ["self"] (spR K 1 m_Reach_found_ring) ∧ Binds K fd ["self"] [] ∧ PySem.W.keepIn K (.ref ((.meth "Reach" "found_ring" : Dz.Loc).ad K)) = true := by
  obtain ⟨fd, F⟩ := e.def_ 51 (d := ⟨.meth "Reach" "found_ring", "found_ring", "Reach.found_ring", s_Reach_found_ring⟩)
  exact ⟨fd, okF_Reach_found_ring e F, F.binds (fun _ _ _ _ _ _ us hl => match us, hl with | [_], _ => rfl), F.kp⟩
/-! ### Log.town_names -/
abbrev N_Log_town_names : List Str := ["self"]
abbrev s_Log_town_names : Stmt := inClass (top 55) 6
theorem sc_Log_town_names : FnScope N_Log_town_names ["self"] (defScope s_Log_town_names) := ⟨rfl, rfl, rfl, by decide +kernel, rfl, by decide +kernel, by decide +kernel⟩
theorem okF_Log_town_names (e : En fa pr fn K mg) {fd : FuncData} (F : Fun K "town_names" "Log.town_names" s_Log_town_names ((.meth "Log" "town_names" : Dz.Loc).ad K) fd) : FnOk P w K mg base CX0 1 ((.meth "Log" "town_names" : Dz.Loc).ad K) fd ["self"] (spP K 1 m_Log_town_names) := by
  refine fn_P (N := N_Log_town_names) (ps := ["self"]) (g := g_Log_town_names) F sc_Log_town_names (by decide) (fun cdv A outer s H E hr => ?_)
  have nd : N_Log_town_names.Nodup := sc_Log_town_names.nd
  unfold g_Log_town_names
  exact (s_one (s_ret (cvCall (co_list.or (co_listK.or co_listT)) (pe_callTy (call_list_of.or ((call_listD rfl).or (call_list_dT rfl))) rfl (e.free 84) boot_list (l_cons (x_p (p_fd (pv 0) (e.cls 113) (e.noat 117))) l_nil)))))
theorem ok_Log_town_names (e : En fa pr fn K mg) : ∃ fd, FnOk P w K mg base CX0 1 ((.meth "Log" "town_names" : Dz.Loc).ad K) fd ["self"] (spP K 1 m_Log_town_names) ∧ Binds K fd ["self"] [] ∧ PySem.W.keepIn K (.ref ((.meth "Log" "town_names" : Dz.Loc).ad K)) = true := by
  obtain ⟨fd, F⟩ := e.def_ 33 (d := ⟨.meth "Log" "town_names", "town_names", "Log.town_names", s_Log_town_names⟩)
  exact ⟨fd, okF_Log_town_names e F, F.binds (fun _ _ _ _ _ _ us hl => match us, hl with | [_], _ => rfl), F.kp⟩
/-! ### clocks_of -/
abbrev N_clocks_of : List Str := ["log"]
abbrev s_clocks_of : Stmt := top 75
theorem sc_clocks_of : FnScope N_clocks_of ["log"] (defScope s_clocks_of) := ⟨rfl, rfl, rfl, by decide +kernel, rfl, by decide +kernel, by decide +kernel⟩
theorem okF_clocks_of (e : En fa pr fn K mg) {fd : FuncData} (F : Fun K "clocks_of" "clocks_of" s_clocks_of ((.glob "clocks_of" : Dz.Loc).ad K) fd) : FnOk P w K mg base CX0 2 ((.glob "clocks_of" : Dz.Loc).ad K) fd ["log"] (spP K 1 m_clocks_of) := by
  obtain ⟨fd_Log_town_names, F_Log_town_names, b_Log_town_names, k_Log_town_names⟩ := ok_Log_town_names (P := P) (w := w) (base := base) e
  refine fn_P (N := N_clocks_of) (ps := ["log"]) (g := g_clocks_of) F sc_clocks_of (by decide) (fun cdv A outer s H E hr => ?_)
  have nd : N_clocks_of.Nodup := sc_clocks_of.nd
  unfold g_clocks_of
  exact (s_one (s_ret (x_lst (l_cons (x_gS rfl (e.str 77)) (l_star (xd (cvMethP0 (pe_meth0 (x_v (pv 0)) (e.cls 113) (e.meth 121) (F_Log_town_names.mono (by decide)) hr b_Log_town_names .nil pass0))) l_nil)))))
theorem ok_clocks_of (e : En fa pr fn K mg) : ∃ fd, FnOk P w K mg base CX0 2 ((.glob "clocks_of" : Dz.Loc).ad K) fd ["log"] (spP K 1 m_clocks_of) ∧ Binds K fd ["log"] [] ∧ PySem.W.keepIn K (.ref ((.glob "clocks_of" : Dz.Loc).ad K)) = true := by
  obtain ⟨fd, F⟩ := e.def_ 48 (d := ⟨.glob "clocks_of", "clocks_of", "clocks_of", s_clocks_of⟩)
  exact ⟨fd, okF_clocks_of e F, F.binds (fun _ _ _ _ _ _ us hl => match us, hl with | [_], _ => rfl), F.kp⟩
/-! ### Log.letters -/
abbrev N_Log_letters : List Str := ["self", "ends"]
abbrev s_Log_letters : Stmt := inClass (top 55) 5
theorem sc_Log_letters : FnScope N_Log_letters ["self"] (defScope s_Log_letters) := ⟨rfl, rfl, rfl, by decide +kernel, rfl, by decide +kernel, by decide +kernel⟩
theorem okF_Log_letters (e : En fa pr fn K mg) {fd : FuncData} (F : Fun K "letters" "Log.letters" s_Log_letters ((.prop "Log" "letters" : Dz.Loc).ad K) fd) : FnOk P w K mg base CX0 1 ((.prop "Log" "letters" : Dz.Loc).ad K) fd ["self"] (spP K 1 m_Log_letters) := by
  refine fn_P (N := N_Log_letters) (ps := ["self"]) (g := g_Log_letters) F sc_Log_letters (by decide) (fun cdv A outer s H E hr => ?_)
  have nd : N_Log_letters.Nodup := sc_Log_letters.nd
  unfold g_Log_letters
  exact (s_one (s_ret (cvCall co_tuple (pe_callTy call_tuple_of rfl (e.free 85) boot_tuple (l_cons (xd (x_lcP (own := [("ends", 1)]) rfl nd (p_fd (pv 0) (e.cls 113) (e.noat 115)) (blkOk_by (N := N_Log_letters) (sc := defScope s_Log_letters) (by decide +kernel)) (by decide) onlyN (fun _ _ _ _ _ => (g_name nd rfl (by first | exact .inl rfl | exact .inr rfl))) (fun _ _ _ _ _ => ts_nil) (fun _ _ _ _ _ => (x_tup (l_star (x_v (pv 1)) (l_star (x_sub (hu_of hr) (x_p (p_fd (pv 0) (e.cls 113) (e.noat 115))) (x_v (pv 1))) l_nil)))))) l_nil)))))
theorem ok_Log_letters (e : En fa pr fn K mg) : ∃ fd, FnOk P w K mg base CX0 1 ((.prop "Log" "letters" : Dz.Loc).ad K) fd ["self"] (spP K 1 m_Log_letters) ∧ Binds K fd ["self"] [] ∧ PySem.W.keepIn K (.ref ((.prop "Log" "letters" : Dz.Loc).ad K)) = true := by
  obtain ⟨fd, F⟩ := e.def_ 32 (d := ⟨.prop "Log" "letters", "letters", "Log.letters", s_Log_letters⟩)
  exact ⟨fd, okF_Log_letters e F, F.binds (fun _ _ _ _ _ _ us hl => match us, hl with | [_], _ => rfl), F.kp⟩
/-! ### Log.towns -/
abbrev N_Log_towns : List Str := ["self", "name"]
abbrev s_Log_towns : Stmt := inClass (top 55) 3
theorem sc_Log_towns : FnScope N_Log_towns ["self"] (defScope s_Log_towns) := ⟨rfl, rfl, rfl, by decide +kernel, rfl, by decide +kernel, by decide +kernel⟩
theorem okF_Log_towns (e : En fa pr fn K mg) {fd : FuncData} (F : Fun K "towns" "Log.towns" s_Log_towns ((.prop "Log" "towns" : Dz.Loc).ad K) fd) : FnOk P w K mg base CX0 1 ((.prop "Log" "towns" : Dz.Loc).ad K) fd ["self"] (spP K 1 m_Log_towns) := by
  refine fn_P (N := N_Log_towns) (ps := ["self"]) (g := g_Log_towns) F sc_Log_towns (by decide) (fun cdv A outer s H E hr => ?_)
  have nd : N_Log_towns.Nodup := sc_Log_towns.nd
  unfold g_Log_towns
  exact (s_one (s_ret (cvCall co_tuple (pe_callTy call_tuple_of rfl (e.free 85) boot_tuple (l_cons (xd (x_lcP (own := [("name", 1)]) rfl nd (p_fd (pv 0) (e.cls 113) (e.noat 117)) (blkOk_by (N := N_Log_towns) (sc := defScope s_Log_towns) (by decide +kernel)) (by decide) onlyN (fun _ _ _ _ _ => (g_name nd rfl (by first | exact .inl rfl | exact .inr rfl))) (fun _ _ _ _ _ => ts_nil) (fun _ _ _ _ _ => (x_tup (l_cons (x_v (pv 1)) (l_star (x_sub (hu_of hr) (x_p (p_fd (pv 0) (e.cls 113) (e.noat 117))) (x_v (pv 1))) l_nil)))))) l_nil)))))
theorem ok_Log_towns (e : En fa pr fn K mg) : ∃ fd, FnOk P w K mg base CX0 1 ((.prop "Log" "towns" : Dz.Loc).ad K) fd ["self"] (spP K 1 m_Log_towns) ∧ Binds K fd ["self"] [] ∧ PySem.W.keepIn K (.ref ((.prop "Log" "towns" : Dz.Loc).ad K)) = true := by
  obtain ⟨fd, F⟩ := e.def_ 30 (d := ⟨.prop "Log" "towns", "towns", "Log.towns", s_Log_towns⟩)
  exact ⟨fd, okF_Log_towns e F, F.binds (fun _ _ _ _ _ _ us hl => match us, hl with | [_], _ => rfl), F.kp⟩
/-! ### steps_of -/
abbrev N_steps_of : List Str := ["log", "found", "name", "low", "high", "one", "other", "least", "most", "over", "here", "there"]
abbrev s_steps_of : Stmt := top 76
theorem sc_steps_of : FnScope N_steps_of ["log"] (defScope s_steps_of) := ⟨rfl, rfl, rfl, by decide +kernel, rfl, by decide +kernel, by decide +kernel⟩
theorem okF_steps_of (e : En fa pr fn K mg) {fd : FuncData} (F : Fun K "steps_of" "steps_of" s_steps_of ((.glob "steps_of" : Dz.Loc).ad K) fd) : FnOk P w K mg base CX0 3 ((.glob "steps_of" : Dz.Loc).ad K) fd ["log"] (spP K 1 m_steps_of) := by
  obtain ⟨fd_Log_letters, F_Log_letters, b_Log_letters, k_Log_letters⟩ := ok_Log_letters (P := P) (w := w) (base := base) e
  obtain ⟨fd_Log_shown_at, F_Log_shown_at, b_Log_shown_at, k_Log_shown_at⟩ := ok_Log_shown_at (P := P) (w := w) (base := base) e
  obtain ⟨fd_Log_town_at, F_Log_town_at, b_Log_town_at, k_Log_town_at⟩ := ok_Log_town_at (P := P) (w := w) (base := base) e
  obtain ⟨fd_Log_towns, F_Log_towns, b_Log_towns, k_Log_towns⟩ := ok_Log_towns (P := P) (w := w) (base := base) e
  refine fn_P (N := N_steps_of) (ps := ["log"]) (g := g_steps_of) F sc_steps_of (by decide) (fun cdv A outer s H E hr => ?_)
  have nd : N_steps_of.Nodup := sc_steps_of.nd
  unfold g_steps_of
  exact (s_cons (s_set (i := 1) nd rfl (by first | exact .inl rfl | exact .inr rfl) (x_lst l_nil))
  (s_cons (s_for (vs := [2, 3, 4]) PassesOwn.never rfl (i_any (xd (cvProp (pe_prop (x_v (pv 0)) (e.cls 113) (e.prop 1) F_Log_towns (hr.mono (by decide)) b_Log_towns .nil pass0 rfl)))) (g_tup rfl (gs_cons (g_name nd rfl (by first | exact .inl rfl | exact .inr rfl)) (gs_cons (g_name nd rfl (by first | exact .inl rfl | exact .inr rfl)) (gs_cons (g_name nd rfl (by first | exact .inl rfl | exact .inr rfl)) gs_nil))))
  (s_cons (cvApp (by rfl) (pe_bm PySem.F.plainAttrs_list PySem.F.slot_list_append PySem.F.type_list_append mt_append (p_sl (pv 1)) (pa_cons (x_tup (l_cons (x_gS rfl (e.str 77)) (l_cons (x_v (pv 2)) (l_cons (x_v (pv 3)) (l_cons (x_tup (l_cons (x_gS rfl (e.str 78)) (l_cons (x_v (pv 2)) l_nil))) l_nil))))) pa_nil)))
  (s_one (cvApp (by rfl) (pe_bm PySem.F.plainAttrs_list PySem.F.slot_list_append PySem.F.type_list_append mt_append (p_sl (pv 1)) (pa_cons (x_tup (l_cons (x_v (pv 2)) (l_cons (x_gS rfl (e.str 77)) (l_cons (x_op op_sub rd_sub x_int (x_v (pv 4))) (l_cons (x_tup (l_cons (x_gS rfl (e.str 79)) (l_cons (x_v (pv 2)) l_nil))) l_nil))))) pa_nil))))))
  (s_cons (s_for (vs := [5, 6, 7, 8]) PassesOwn.never rfl (i_any (xd (cvProp (pe_prop (x_v (pv 0)) (e.cls 113) (e.prop 3) F_Log_letters (hr.mono (by decide)) b_Log_letters .nil pass0 rfl)))) (g_tup rfl (gs_cons (g_name nd rfl (by first | exact .inl rfl | exact .inr rfl)) (gs_cons (g_name nd rfl (by first | exact .inl rfl | exact .inr rfl)) (gs_cons (g_name nd rfl (by first | exact .inl rfl | exact .inr rfl)) (gs_cons (g_name nd rfl (by first | exact .inl rfl | exact .inr rfl)) gs_nil)))))
  (s_cons (imS (ps_par (i := 10) (j := 11) rfl nd rfl rfl (by decide) rfl rfl (lo_cons (xo (xd (cvMethP (pe_meth (x_v (pv 0)) (e.cls 113) (e.meth 124) (F_Log_town_at.mono (by decide)) hr b_Log_town_at .nil pass0 (l_cons (x_v (pv 5)) l_nil))))) (lo_cons (xo (xd (cvMethP (pe_meth (x_v (pv 0)) (e.cls 113) (e.meth 124) (F_Log_town_at.mono (by decide)) hr b_Log_town_at .nil pass0 (l_cons (x_v (pv 6)) l_nil))))) lo_nil)) rfl) fun _ _ _ w => tS_parO (by decide) _ _ _ w)
  (s_cons (s_set (i := 9) nd rfl (by first | exact .inl rfl | exact .inr rfl) (xo (x_op op_sub rd_sub (xd (cvMethP (pe_meth (x_v (pv 0)) (e.cls 113) (e.meth 125) (F_Log_shown_at.mono (by decide)) hr b_Log_shown_at .nil pass0 (l_cons (x_v (pv 6)) l_nil)))) (xd (cvMethP (pe_meth (x_v (pv 0)) (e.cls 113) (e.meth 125) (F_Log_shown_at.mono (by decide)) hr b_Log_shown_at .nil pass0 (l_cons (x_v (pv 5)) l_nil)))))))
  (s_cons (cvApp (by rfl) (pe_bm PySem.F.plainAttrs_list PySem.F.slot_list_append PySem.F.type_list_append mt_append (p_sl (pv 1)) (pa_cons (x_tup (l_cons (x_v (pv 11)) (l_cons (x_v (pv 10)) (l_cons (x_op op_sub rd_sub (x_v (pv 7)) (x_v (pv 9))) (l_cons (x_tup (l_cons (x_gS rfl (e.str 80)) (l_cons (x_v (pv 5)) (l_cons (x_v (pv 6)) l_nil)))) l_nil))))) pa_nil)))
  (s_one (s_if (t_cmp op_notN rd_isNot (x_v (pv 8)) x_non (nomark _))
  (s_one (cvApp (by rfl) (pe_bm PySem.F.plainAttrs_list PySem.F.slot_list_append PySem.F.type_list_append mt_append (p_sl (pv 1)) (pa_cons (x_tup (l_cons (x_v (pv 10)) (l_cons (x_v (pv 11)) (l_cons (x_op op_sub rd_sub (x_v (pv 9)) (x_v (pv 8))) (l_cons (x_tup (l_cons (x_gS rfl (e.str 81)) (l_cons (x_v (pv 5)) (l_cons (x_v (pv 6)) l_nil)))) l_nil))))) pa_nil))))
  s_nil))))))
  (s_one (s_retV (pv 1))))))
theorem ok_steps_of (e : En fa pr fn K mg) : ∃ fd, FnOk P w K mg base CX0 3 ((.glob "steps_of" : Dz.Loc).ad K) fd ["log"] (spP K 1 m_steps_of) ∧ Binds K fd ["log"] [] ∧ PySem.W.keepIn K (.ref ((.glob "steps_of" : Dz.Loc).ad K)) = true := by
  obtain ⟨fd, F⟩ := e.def_ 49 (d := ⟨.glob "steps_of", "steps_of", "steps_of", s_steps_of⟩)
  exact ⟨fd, okF_steps_of e F, F.binds (fun _ _ _ _ _ _ us hl => match us, hl with | [_], _ => rfl), F.kp⟩
/-! ### Reach.__init__ -/
abbrev N_Reach__init_ : List Str := ["self", "log", "clock"]
abbrev s_Reach__init_ : Stmt := inClass (top 77) 0
theorem sc_Reach__init_ : FnScope N_Reach__init_ ["self", "log"] (defScope s_Reach__init_) := ⟨rfl, rfl, rfl, by decide +kernel, rfl, by decide +kernel, by decide +kernel⟩
theorem okF_Reach__init_ (e : En fa pr fn K mg) {fd : FuncData} (F : Fun K "__init__" "Reach.__init__" s_Reach__init_ ((.meth "Reach" "__init__" : Dz.Loc).ad K) fd) : FnOk P w K mg base CX0 4 ((.meth "Reach" "__init__" : Dz.Loc).ad K) fd ["self", "log"] (spR K 2 m_Reach__init_) := by
  obtain ⟨fd_Reach_go, F_Reach_go, b_Reach_go, k_Reach_go⟩ := ok_Reach_go (P := P) (w := w) (base := base) e
  obtain ⟨fd_Reach_found_ring, F_Reach_found_ring, b_Reach_found_ring, k_Reach_found_ring⟩ := ok_Reach_found_ring (P := P) (w := w) (base := base) e
  obtain ⟨fd_clocks_of, F_clocks_of, b_clocks_of, k_clocks_of⟩ := ok_clocks_of (P := P) (w := w) (base := base) e
  obtain ⟨fd_steps_of, F_steps_of, b_steps_of, k_steps_of⟩ := ok_steps_of (P := P) (w := w) (base := base) e
  refine fn_R (N := N_Reach__init_) (ps := ["self", "log"]) (g := g_Reach__init_) F sc_Reach__init_ (by decide) (fun cdv A outer s H E hr => ?_)
  have nd : N_Reach__init_.Nodup := sc_Reach__init_.nd
  unfold g_Reach__init_
  exact (s_cons (s_fld (pv 0) (xo (xd (x_call (F_steps_of.mono (by decide)) hr rfl (e.glo 33) k_steps_of b_steps_of (l_cons (x_v (pv 1)) l_nil)))) (e.cls 126) (e.noat 131))
  (s_cons (s_fld (pv 0) (xo (xd (x_call (F_clocks_of.mono (by decide)) hr rfl (e.glo 32) k_clocks_of b_clocks_of (l_cons (x_v (pv 1)) l_nil)))) (e.cls 126) (e.noat 127))
  (s_cons (s_fld (pv 0) (xo (xd (cvMethR0 (pe_meth0 (pv 0) (e.cls 126) (e.meth 134) (F_Reach_found_ring.mono (by decide)) hr b_Reach_found_ring .nil pass0)))) (e.cls 126) (e.noat 130))
  (s_cons (s_fld (pv 0) (cvCall co_dictT (pe_callTy (call_dictT rfl (hu2 hr)) rfl (e.free 86) boot_dict (l_cons (xd (x_lc (own := [("clock", 2)]) rfl nd (i_any (x_p (p_fd (pv 0) (e.cls 126) (e.noat 127)))) (blkOk_by (N := N_Reach__init_) (sc := defScope s_Reach__init_) (by decide +kernel)) (by decide) onlyN (fun _ _ _ _ _ => (g_name nd rfl (by first | exact .inl rfl | exact .inr rfl))) (fun _ _ _ _ _ => ts_nil) (fun _ _ _ _ _ => (x_tup (l_cons (x_tup (l_cons (x_v (pv 2)) (l_cons (x_v (pv 2)) l_nil))) (l_cons x_int l_nil)))))) l_nil))) (e.cls 126) (e.noat 129))
  (s_cons (s_fld (pv 0) x_newT (e.cls 126) (e.noat 128))
  (s_one (s_if (t_cmp op_isN rd_is (x_p (p_fd (pv 0) (e.cls 126) (e.noat 130))) x_non (nomark _))
  (s_one (s_expr (xd (cvMethR0 (pe_meth0 (pv 0) (e.cls 126) (e.meth 135) (F_Reach_go.mono (by decide)) hr b_Reach_go .nil pass0)))))
  s_nil)))))))
theorem ok_Reach__init_ (e : En fa pr fn K mg) : ∃ fd, FnOk P w K mg base CX0 4 ((.meth "Reach" "__init__" : Dz.Loc).ad K) fd ["self", "log"] (spR K 2 m_Reach__init_) ∧ Binds K fd ["self", "log"] [] ∧ PySem.W.keepIn K (.ref ((.meth "Reach" "__init__" : Dz.Loc).ad K)) = true := by
  obtain ⟨fd, F⟩ := e.def_ 50 (d := ⟨.meth "Reach" "__init__", "__init__", "Reach.__init__", s_Reach__init_⟩)
  exact ⟨fd, okF_Reach__init_ e F, F.binds (fun _ _ _ _ _ _ us hl => match us, hl with | [_, _], _ => rfl), F.kp⟩
/-! ### reach_of -/
abbrev N_reach_of : List Str := ["log", "reach"]
abbrev s_reach_of : Stmt := top 78
theorem sc_reach_of : FnScope N_reach_of ["log"] (defScope s_reach_of) := ⟨rfl, rfl, rfl, by decide +kernel, rfl, by decide +kernel, by decide +kernel⟩
theorem okF_reach_of (e : En fa pr fn K mg) {fd : FuncData} (F : Fun K "reach_of" "reach_of" s_reach_of ((.glob "reach_of" : Dz.Loc).ad K) fd) : FnOk P w K mg base CX0 6 ((.glob "reach_of" : Dz.Loc).ad K) fd ["log"] (spP K 1 m_reach_of) := by
  obtain ⟨fd_Reach_ring, F_Reach_ring, b_Reach_ring, k_Reach_ring⟩ := ok_Reach_ring (P := P) (w := w) (base := base) e
  obtain ⟨fd_Reach__init_, F_Reach__init_, b_Reach__init_, k_Reach__init_⟩ := ok_Reach__init_ (P := P) (w := w) (base := base) e
  refine fn_P (N := N_reach_of) (ps := ["log"]) (g := g_reach_of) F sc_reach_of (by decide) (fun cdv A outer s H E hr => ?_)
  have nd : N_reach_of.Nodup := sc_reach_of.nd
  unfold g_reach_of
  exact (s_cons (s_set (i := 1) nd rfl (by first | exact .inl rfl | exact .inr rfl) (xo (xd (cvMake (pe_make (e.mkr 132) F_Reach__init_ (hr.mono (by decide)) rfl (e.glo 57) b_Reach__init_ .nil pass0 (l_cons (x_v (pv 0)) l_nil))))))
  (s_cons (s_if (t_cmp op_notN rd_isNot (xd (cvMethP0 (pe_meth0 (x_v (pv 1)) (e.cls 126) (e.meth 137) (F_Reach_ring.mono (by decide)) hr b_Reach_ring .nil pass0))) x_non (nomark _))
  (s_one s_never)
  s_nil)
  (s_one (s_ret (xo (x_v (pv 1)))))))
theorem ok_reach_of (e : En fa pr fn K mg) : ∃ fd, FnOk P w K mg base CX0 6 ((.glob "reach_of" : Dz.Loc).ad K) fd ["log"] (spP K 1 m_reach_of) ∧ Binds K fd ["log"] [] ∧ PySem.W.keepIn K (.ref ((.glob "reach_of" : Dz.Loc).ad K)) = true := by
  obtain ⟨fd, F⟩ := e.def_ 58 (d := ⟨.glob "reach_of", "reach_of", "reach_of", s_reach_of⟩)
  exact ⟨fd, okF_reach_of e F, F.binds (fun _ _ _ _ _ _ us hl => match us, hl with | [_], _ => rfl), F.kp⟩
/-! ### Log.deed_names -/
abbrev N_Log_deed_names : List Str := ["self"]
abbrev s_Log_deed_names : Stmt := inClass (top 55) 7
theorem sc_Log_deed_names : FnScope N_Log_deed_names ["self"] (defScope s_Log_deed_names) := ⟨rfl, rfl, rfl, by decide +kernel, rfl, by decide +kernel, by decide +kernel⟩
theorem okF_Log_deed_names (e : En fa pr fn K mg) {fd : FuncData} (F : Fun K "deed_names" "Log.deed_names" s_Log_deed_names ((.meth "Log" "deed_names" : Dz.Loc).ad K) fd) : FnOk P w K mg base CX0 1 ((.meth "Log" "deed_names" : Dz.Loc).ad K) fd ["self"] (spP K 1 m_Log_deed_names) := by
  refine fn_P (N := N_Log_deed_names) (ps := ["self"]) (g := g_Log_deed_names) F sc_Log_deed_names (by decide) (fun cdv A outer s H E hr => ?_)
  have nd : N_Log_deed_names.Nodup := sc_Log_deed_names.nd
  unfold g_Log_deed_names
  exact (s_one (s_ret (cvCall (co_list.or (co_listK.or co_listT)) (pe_callTy (call_list_of.or ((call_listD rfl).or (call_list_dT rfl))) rfl (e.free 84) boot_list (l_cons (x_p (p_fd (pv 0) (e.cls 113) (e.noat 114))) l_nil)))))
theorem ok_Log_deed_names (e : En fa pr fn K mg) : ∃ fd, FnOk P w K mg base CX0 1 ((.meth "Log" "deed_names" : Dz.Loc).ad K) fd ["self"] (spP K 1 m_Log_deed_names) ∧ Binds K fd ["self"] [] ∧ PySem.W.keepIn K (.ref ((.meth "Log" "deed_names" : Dz.Loc).ad K)) = true := by
  obtain ⟨fd, F⟩ := e.def_ 34 (d := ⟨.meth "Log" "deed_names", "deed_names", "Log.deed_names", s_Log_deed_names⟩)
  exact ⟨fd, okF_Log_deed_names e F, F.binds (fun _ _ _ _ _ _ us hl => match us, hl with | [_], _ => rfl), F.kp⟩
/-! ### check_log -/
abbrev N_check_log : List Str := ["log"]
abbrev s_check_log : Stmt := top 57
theorem sc_check_log : FnScope N_check_log ["log"] (defScope s_check_log) := ⟨rfl, rfl, rfl, by decide +kernel, rfl, by decide +kernel, by decide +kernel⟩
theorem okF_check_log (e : En fa pr fn K mg) {fd : FuncData} (F : Fun K "check_log" "check_log" s_check_log ((.glob "check_log" : Dz.Loc).ad K) fd) : FnOk P w K mg base CX0 1 ((.glob "check_log" : Dz.Loc).ad K) fd ["log"] (spP K 1 m_check_log) := by
  refine fn_P (N := N_check_log) (ps := ["log"]) (g := g_check_log) F sc_check_log (by decide) (fun cdv A outer s H E hr => ?_)
  have nd : N_check_log.Nodup := sc_check_log.nd
  unfold g_check_log
  exact (s_one (s_if (t_not (t_val (x_isO (e.is_ 5) (e.cls 113) rfl (e.free 97) (x_v (pv 0)) rfl (e.glo 56))))
  (s_one s_never)
  s_nil))
theorem ok_check_log (e : En fa pr fn K mg) : ∃ fd, FnOk P w K mg base CX0 1 ((.glob "check_log" : Dz.Loc).ad K) fd ["log"] (spP K 1 m_check_log) ∧ Binds K fd ["log"] [] ∧ PySem.W.keepIn K (.ref ((.glob "check_log" : Dz.Loc).ad K)) = true := by
  obtain ⟨fd, F⟩ := e.def_ 39 (d := ⟨.glob "check_log", "check_log", "check_log", s_check_log⟩)
  exact ⟨fd, okF_check_log e F, F.binds (fun _ _ _ _ _ _ us hl => match us, hl with | [_], _ => rfl), F.kp⟩
/-! ### check_deed -/
abbrev N_check_deed : List Str := ["log", "value"]
abbrev s_check_deed : Stmt := top 58
theorem sc_check_deed : FnScope N_check_deed ["log", "value"] (defScope s_check_deed) := ⟨rfl, rfl, rfl, by decide +kernel, rfl, by decide +kernel, by decide +kernel⟩
theorem okF_check_deed (e : En fa pr fn K mg) {fd : FuncData} (F : Fun K "check_deed" "check_deed" s_check_deed ((.glob "check_deed" : Dz.Loc).ad K) fd) : FnOk P w K mg base CX0 2 ((.glob "check_deed" : Dz.Loc).ad K) fd ["log", "value"] (spP K 2 m_check_deed) := by
  obtain ⟨fd_Log_deed_names, F_Log_deed_names, b_Log_deed_names, k_Log_deed_names⟩ := ok_Log_deed_names (P := P) (w := w) (base := base) e
  obtain ⟨fd_check_log, F_check_log, b_check_log, k_check_log⟩ := ok_check_log (P := P) (w := w) (base := base) e
  refine fn_P (N := N_check_deed) (ps := ["log", "value"]) (g := g_check_deed) F sc_check_deed (by decide) (fun cdv A outer s H E hr => ?_)
  have nd : N_check_deed.Nodup := sc_check_deed.nd
  unfold g_check_deed
  exact (s_cons (s_expr (xd (x_call (F_check_log.mono (by decide)) hr rfl (e.glo 23) k_check_log b_check_log (l_cons (x_v (pv 0)) l_nil))))
  (s_one (s_if (t_w (w_or (t_not (t_val (xd (cvCall co_isi (pe_callB call_isi rfl (e.free 97) boot_isinstance (l_cons (x_v (pv 1)) (l_cons (x_ty rfl (e.free 96) boot_str) l_nil))))))) (w_one (t_notIn (hu_of hr) (x_v (pv 1)) (xd (cvMethP0 (pe_meth0 (x_v (pv 0)) (e.cls 113) (e.meth 122) (F_Log_deed_names.mono (by decide)) hr b_Log_deed_names .nil pass0)))))))
  (s_one s_never)
  s_nil)))
theorem ok_check_deed (e : En fa pr fn K mg) : ∃ fd, FnOk P w K mg base CX0 2 ((.glob "check_deed" : Dz.Loc).ad K) fd ["log", "value"] (spP K 2 m_check_deed) ∧ Binds K fd ["log", "value"] [] ∧ PySem.W.keepIn K (.ref ((.glob "check_deed" : Dz.Loc).ad K)) = true := by
  obtain ⟨fd, F⟩ := e.def_ 40 (d := ⟨.glob "check_deed", "check_deed", "check_deed", s_check_deed⟩)
  exact ⟨fd, okF_check_deed e F, F.binds (fun _ _ _ _ _ _ us hl => match us, hl with | [_, _], _ => rfl), F.kp⟩
/-! ### span_of -/
abbrev N_span_of : List Str := ["log", "deed"]
abbrev s_span_of : Stmt := top 82
theorem sc_span_of : FnScope N_span_of ["log", "deed"] (defScope s_span_of) := ⟨rfl, rfl, rfl, by decide +kernel, rfl, by decide +kernel, by decide +kernel⟩
theorem okF_span_of (e : En fa pr fn K mg) {fd : FuncData} (F : Fun K "span_of" "span_of" s_span_of ((.glob "span_of" : Dz.Loc).ad K) fd) : FnOk P w K mg base CX0 7 ((.glob "span_of" : Dz.Loc).ad K) fd ["log", "deed"] (spP K 2 m_span_of) := by
  obtain ⟨fd_span_by, F_span_by, b_span_by, k_span_by⟩ := ok_span_by (P := P) (w := w) (base := base) e
  obtain ⟨fd_reach_of, F_reach_of, b_reach_of, k_reach_of⟩ := ok_reach_of (P := P) (w := w) (base := base) e
  obtain ⟨fd_check_deed, F_check_deed, b_check_deed, k_check_deed⟩ := ok_check_deed (P := P) (w := w) (base := base) e
  refine fn_P (N := N_span_of) (ps := ["log", "deed"]) (g := g_span_of) F sc_span_of (by decide) (fun cdv A outer s H E hr => ?_)
  have nd : N_span_of.Nodup := sc_span_of.nd
  unfold g_span_of
  exact (s_cons (s_expr (xd (x_call (F_check_deed.mono (by decide)) hr rfl (e.glo 24) k_check_deed b_check_deed (l_cons (x_v (pv 0)) (l_cons (x_v (pv 1)) l_nil)))))
  (s_one (s_ret (x_call (F_span_by.mono (by decide)) hr rfl (e.glo 36) k_span_by b_span_by (l_cons (x_v (pv 0)) (l_cons (xd (x_call (F_reach_of.mono (by decide)) hr rfl (e.glo 34) k_reach_of b_reach_of (l_cons (x_v (pv 0)) l_nil))) (l_cons (x_v (pv 1)) l_nil)))))))
theorem ok_span_of (e : En fa pr fn K mg) : ∃ fd, FnOk P w K mg base CX0 7 ((.glob "span_of" : Dz.Loc).ad K) fd ["log", "deed"] (spP K 2 m_span_of) ∧ Binds K fd ["log", "deed"] [] ∧ PySem.W.keepIn K (.ref ((.glob "span_of" : Dz.Loc).ad K)) = true := by
  obtain ⟨fd, F⟩ := e.def_ 61 (d := ⟨.glob "span_of", "span_of", "span_of", s_span_of⟩)
  exact ⟨fd, okF_span_of e F, F.binds (fun _ _ _ _ _ _ us hl => match us, hl with | [_, _], _ => rfl), F.kp⟩
/-! ### joined -/
abbrev N_joined : List Str := ["rows", "found", "least", "most"]
abbrev s_joined : Stmt := top 32
theorem sc_joined : FnScope N_joined ["rows"] (defScope s_joined) := ⟨rfl, rfl, rfl, by decide +kernel, rfl, by decide +kernel, by decide +kernel⟩
theorem okF_joined (e : En fa pr fn K mg) {fd : FuncData} (F : Fun K "joined" "joined" s_joined ((.glob "joined" : Dz.Loc).ad K) fd) : FnOk P w K mg base CX0 1 ((.glob "joined" : Dz.Loc).ad K) fd ["rows"] (spP K 1 m_joined) := by
  refine fn_P (N := N_joined) (ps := ["rows"]) (g := g_joined) F sc_joined (by decide) (fun cdv A outer s H E hr => ?_)
  have nd : N_joined.Nodup := sc_joined.nd
  unfold g_joined
  exact (s_cons (s_set (i := 1) nd rfl (by first | exact .inl rfl | exact .inr rfl) (x_lst l_nil))
  (s_cons (s_for (vs := [2, 3]) PassesOwn.never rfl (i_any (x_v (pv 0))) (g_tup rfl (gs_cons (g_name nd rfl (by first | exact .inl rfl | exact .inr rfl)) (gs_cons (g_name nd rfl (by first | exact .inl rfl | exact .inr rfl)) gs_nil)))
  (s_one (s_if (t_w (w_and (t_neP hr.units (p_sl (pv 1)) (xd (x_lst l_nil))) (w_one (t_cmp (op_eqD hr.units) rd_eqD (x_op op_addA rd_addA (x_sub (hu_of hr) (x_subP (hu_of hr) (p_sl (pv 1)) (x_un un_neg ud_neg x_int)) x_int) x_int) (x_v (pv 2)) (nomark _)))))
  (s_one (s_asG (x_tup (l_cons (x_sub (hu_of hr) (x_subP (hu_of hr) (p_sl (pv 1)) (x_un un_neg ud_neg x_int)) x_int) (l_cons (x_v (pv 3)) l_nil))) (sg_sub (hu_of hr) (p_sl (pv 1)) (x_un un_neg ud_neg x_int))))
  (s_one (cvApp (by rfl) (pe_bm PySem.F.plainAttrs_list PySem.F.slot_list_append PySem.F.type_list_append mt_append (p_sl (pv 1)) (pa_cons (x_tup (l_cons (x_v (pv 2)) (l_cons (x_v (pv 3)) l_nil))) pa_nil)))))))
  (s_one (s_ret (cvCall co_tuple (pe_callTy call_tuple_of rfl (e.free 85) boot_tuple (l_cons (x_vF (pv 1)) l_nil)))))))
theorem ok_joined (e : En fa pr fn K mg) : ∃ fd, FnOk P w K mg base CX0 1 ((.glob "joined" : Dz.Loc).ad K) fd ["rows"] (spP K 1 m_joined) ∧ Binds K fd ["rows"] [] ∧ PySem.W.keepIn K (.ref ((.glob "joined" : Dz.Loc).ad K)) = true := by
  obtain ⟨fd, F⟩ := e.def_ 11 (d := ⟨.glob "joined", "joined", "joined", s_joined⟩)
  exact ⟨fd, okF_joined e F, F.binds (fun _ _ _ _ _ _ us hl => match us, hl with | [_], _ => rfl), F.kp⟩
/-! ### having -/
abbrev N_having : List Str := ["sources", "truth", "at", "low", "high"]
abbrev s_having : Stmt := top 29
theorem sc_having : FnScope N_having ["sources", "truth"] (defScope s_having) := ⟨rfl, rfl, rfl, by decide +kernel, rfl, by decide +kernel, by decide +kernel⟩
theorem okF_having (e : En fa pr fn K mg) {fd : FuncData} (F : Fun K "having" "having" s_having ((.glob "having" : Dz.Loc).ad K) fd) : FnOk P w K mg base CX0 1 ((.glob "having" : Dz.Loc).ad K) fd ["sources", "truth"] (spP K 2 m_having) := by
  refine fn_P (N := N_having) (ps := ["sources", "truth"]) (g := g_having) F sc_having (by decide) (fun cdv A outer s H E hr => ?_)
  have nd : N_having.Nodup := sc_having.nd
  unfold g_having
  exact (s_one (s_ret (x_lc (own := [("at", 2), ("low", 3), ("high", 4)]) rfl nd (cvEnum (pi_enum rfl (e.free 98) (l_cons (x_v (pv 0)) l_nil)) (pi_enT rfl (e.free 98) (l_cons (x_v (pv 0)) l_nil))) (blkOk_by (N := N_having) (sc := defScope s_having) (by decide +kernel)) (by decide) (onlyT (onlyCons onlyN (onlyCons (onlyT (onlyCons onlyN (onlyCons onlyN onlyNil))) onlyNil))) (fun _ _ _ _ _ => (g_tup rfl (gs_cons (g_name nd rfl (by first | exact .inl rfl | exact .inr rfl)) (gs_cons (g_tup rfl (gs_cons (g_name nd rfl (by first | exact .inl rfl | exact .inr rfl)) (gs_cons (g_name nd rfl (by first | exact .inl rfl | exact .inr rfl)) gs_nil))) gs_nil)))) (fun _ _ _ _ _ => (ts_one (t_ch op_le op_le rd_le rd_le (x_v (pv 3)) (x_v (pv 1)) (x_v (pv 4))))) (fun _ _ _ _ _ => (x_v (pv 2))))))
theorem ok_having (e : En fa pr fn K mg) : ∃ fd, FnOk P w K mg base CX0 1 ((.glob "having" : Dz.Loc).ad K) fd ["sources", "truth"] (spP K 2 m_having) ∧ Binds K fd ["sources", "truth"] [] ∧ PySem.W.keepIn K (.ref ((.glob "having" : Dz.Loc).ad K)) = true := by
  obtain ⟨fd, F⟩ := e.def_ 8 (d := ⟨.glob "having", "having", "having", s_having⟩)
  exact ⟨fd, okF_having e F, F.binds (fun _ _ _ _ _ _ us hl => match us, hl with | [_, _], _ => rfl), F.kp⟩
/-! ### pieces_of -/
abbrev N_pieces_of : List Str := ["sources", "edges", "low", "high", "one", "other"]
abbrev s_pieces_of : Stmt := top 31
theorem sc_pieces_of : FnScope N_pieces_of ["sources"] (defScope s_pieces_of) := ⟨rfl, rfl, rfl, by decide +kernel, rfl, by decide +kernel, by decide +kernel⟩
theorem okF_pieces_of (e : En fa pr fn K mg) {fd : FuncData} (F : Fun K "pieces_of" "pieces_of" s_pieces_of ((.glob "pieces_of" : Dz.Loc).ad K) fd) : FnOk P w K mg base CX0 2 ((.glob "pieces_of" : Dz.Loc).ad K) fd ["sources"] (spP K 1 m_pieces_of) := by
  obtain ⟨fd_having, F_having, b_having, k_having⟩ := ok_having (P := P) (w := w) (base := base) e
  refine fn_P (N := N_pieces_of) (ps := ["sources"]) (g := g_pieces_of) F sc_pieces_of (by decide) (fun cdv A outer s H E hr => ?_)
  have nd : N_pieces_of.Nodup := sc_pieces_of.nd
  unfold g_pieces_of
  exact (s_cons (s_set (i := 1) nd rfl (by first | exact .inl rfl | exact .inr rfl) (xo (xd (cvSortSet (pe_callB (cr_sortedSet rfl) rfl (e.free 88) boot_sorted (pa_cons (pe_callTy (call_setI rfl) rfl (e.free 87) boot_set (pa_cons (x_op op_addA rd_addA (xd (x_lc (own := [("low", 2), ("high", 3)]) rfl nd (i_any (x_v (pv 0))) (blkOk_by (N := N_pieces_of) (sc := defScope s_pieces_of) (by decide +kernel)) (by decide) (onlyT (onlyCons onlyN (onlyCons onlyN onlyNil))) (fun _ _ _ _ _ => (g_tup rfl (gs_cons (g_name nd rfl (by first | exact .inl rfl | exact .inr rfl)) (gs_cons (g_name nd rfl (by first | exact .inl rfl | exact .inr rfl)) gs_nil)))) (fun _ _ _ _ _ => ts_nil) (fun _ _ _ _ _ => (x_v (pv 2))))) (xd (x_lc (own := [("low", 2), ("high", 3)]) rfl nd (i_any (x_v (pv 0))) (blkOk_by (N := N_pieces_of) (sc := defScope s_pieces_of) (by decide +kernel)) (by decide) (onlyT (onlyCons onlyN (onlyCons onlyN onlyNil))) (fun _ _ _ _ _ => (g_tup rfl (gs_cons (g_name nd rfl (by first | exact .inl rfl | exact .inr rfl)) (gs_cons (g_name nd rfl (by first | exact .inl rfl | exact .inr rfl)) gs_nil)))) (fun _ _ _ _ _ => ts_nil) (fun _ _ _ _ _ => (x_op op_addA rd_addA (x_v (pv 3)) x_int))))) pa_nil)) pa_nil))))))
  (s_one (s_ret (x_lc (own := [("one", 4), ("other", 5)]) rfl nd (cvZip (RZ.pi_zipA rfl (e.free 99) (l_cons (x_v (pv 1)) (l_cons (xd (x_sl (x_v (pv 1)) (pa_at x_int) pa_no)) l_nil)))) (blkOk_by (N := N_pieces_of) (sc := defScope s_pieces_of) (by decide +kernel)) (by decide) (onlyT (onlyCons onlyN (onlyCons onlyN onlyNil))) (fun _ _ _ _ _ => (g_tup rfl (gs_cons (g_name nd rfl (by first | exact .inl rfl | exact .inr rfl)) (gs_cons (g_name nd rfl (by first | exact .inl rfl | exact .inr rfl)) gs_nil)))) (fun _ _ _ _ _ => ts_nil) (fun _ _ _ _ _ => (x_tup (l_cons (x_v (pv 4)) (l_cons (x_op op_sub rd_sub (x_v (pv 5)) x_int) (l_cons (xd (x_call (F_having.mono (by decide)) hr rfl (e.glo 8) k_having b_having (l_cons (x_v (pv 0)) (l_cons (x_v (pv 4)) l_nil)))) l_nil)))))))))
theorem ok_pieces_of (e : En fa pr fn K mg) : ∃ fd, FnOk P w K mg base CX0 2 ((.glob "pieces_of" : Dz.Loc).ad K) fd ["sources"] (spP K 1 m_pieces_of) ∧ Binds K fd ["sources"] [] ∧ PySem.W.keepIn K (.ref ((.glob "pieces_of" : Dz.Loc).ad K)) = true := by
  obtain ⟨fd, F⟩ := e.def_ 10 (d := ⟨.glob "pieces_of", "pieces_of", "pieces_of", s_pieces_of⟩)
  exact ⟨fd, okF_pieces_of e F, F.binds (fun _ _ _ _ _ _ us hl => match us, hl with | [_], _ => rfl), F.kp⟩
/-! ### told_agreed -/
abbrev N_told_agreed : List Str := ["sources", "many", "least", "most", "some"]
abbrev s_told_agreed : Stmt := top 33
theorem sc_told_agreed : FnScope N_told_agreed ["sources", "many"] (defScope s_told_agreed) := ⟨rfl, rfl, rfl, by decide +kernel, rfl, by decide +kernel, by decide +kernel⟩
theorem okF_told_agreed (e : En fa pr fn K mg) {fd : FuncData} (F : Fun K "told_agreed" "told_agreed" s_told_agreed ((.glob "told_agreed" : Dz.Loc).ad K) fd) : FnOk P w K mg base CX0 3 ((.glob "told_agreed" : Dz.Loc).ad K) fd ["sources", "many"] (spP K 2 m_told_agreed) := by
  obtain ⟨fd_joined, F_joined, b_joined, k_joined⟩ := ok_joined (P := P) (w := w) (base := base) e
  obtain ⟨fd_pieces_of, F_pieces_of, b_pieces_of, k_pieces_of⟩ := ok_pieces_of (P := P) (w := w) (base := base) e
  refine fn_P (N := N_told_agreed) (ps := ["sources", "many"]) (g := g_told_agreed) F sc_told_agreed (by decide) (fun cdv A outer s H E hr => ?_)
  have nd : N_told_agreed.Nodup := sc_told_agreed.nd
  unfold g_told_agreed
  exact (s_one (s_ret (x_call (F_joined.mono (by decide)) hr rfl (e.glo 11) k_joined b_joined (l_cons (xd (x_lc (own := [("least", 2), ("most", 3), ("some", 4)]) rfl nd (i_any (xd (x_call (F_pieces_of.mono (by decide)) hr rfl (e.glo 10) k_pieces_of b_pieces_of (l_cons (x_v (pv 0)) l_nil)))) (blkOk_by (N := N_told_agreed) (sc := defScope s_told_agreed) (by decide +kernel)) (by decide) (onlyT (onlyCons onlyN (onlyCons onlyN (onlyCons onlyN onlyNil)))) (fun _ _ _ _ _ => (g_tup rfl (gs_cons (g_name nd rfl (by first | exact .inl rfl | exact .inr rfl)) (gs_cons (g_name nd rfl (by first | exact .inl rfl | exact .inr rfl)) (gs_cons (g_name nd rfl (by first | exact .inl rfl | exact .inr rfl)) gs_nil))))) (fun _ _ _ _ _ => (ts_one (t_cmp op_ge rd_ge (xd (cvCall co_len (pe_callB call_len rfl (e.free 82) boot_len (l_cons (x_v (pv 4)) l_nil)))) (x_v (pv 1)) (nomark _)))) (fun _ _ _ _ _ => (x_tup (l_cons (x_v (pv 2)) (l_cons (x_v (pv 3)) l_nil)))))) l_nil))))
theorem ok_told_agreed (e : En fa pr fn K mg) : ∃ fd, FnOk P w K mg base CX0 3 ((.glob "told_agreed" : Dz.Loc).ad K) fd ["sources", "many"] (spP K 2 m_told_agreed) ∧ Binds K fd ["sources", "many"] [] ∧ PySem.W.keepIn K (.ref ((.glob "told_agreed" : Dz.Loc).ad K)) = true := by
  obtain ⟨fd, F⟩ := e.def_ 12 (d := ⟨.glob "told_agreed", "told_agreed", "told_agreed", s_told_agreed⟩)
  exact ⟨fd, okF_told_agreed e F, F.binds (fun _ _ _ _ _ _ us hl => match us, hl with | [_, _], _ => rfl), F.kp⟩
/-! ### most_agreed -/
abbrev N_most_agreed : List Str := ["sources", "least", "most", "some"]
abbrev s_most_agreed : Stmt := top 35
theorem sc_most_agreed : FnScope N_most_agreed ["sources"] (defScope s_most_agreed) := ⟨rfl, rfl, rfl, by decide +kernel, rfl, by decide +kernel, by decide +kernel⟩
theorem okF_most_agreed (e : En fa pr fn K mg) {fd : FuncData} (F : Fun K "most_agreed" "most_agreed" s_most_agreed ((.glob "most_agreed" : Dz.Loc).ad K) fd) : FnOk P w K mg base CX0 3 ((.glob "most_agreed" : Dz.Loc).ad K) fd ["sources"] (spP K 1 m_most_agreed) := by
  obtain ⟨fd_pieces_of, F_pieces_of, b_pieces_of, k_pieces_of⟩ := ok_pieces_of (P := P) (w := w) (base := base) e
  refine fn_P (N := N_most_agreed) (ps := ["sources"]) (g := g_most_agreed) F sc_most_agreed (by decide) (fun cdv A outer s H E hr => ?_)
  have nd : N_most_agreed.Nodup := sc_most_agreed.nd
  unfold g_most_agreed
  exact (s_one (s_ret (cvCall co_max (pe_callB (cr_max rfl) rfl (e.free 90) boot_max (l_cons (xd (x_lc (own := [("least", 1), ("most", 2), ("some", 3)]) rfl nd (i_any (xd (x_call (F_pieces_of.mono (by decide)) hr rfl (e.glo 10) k_pieces_of b_pieces_of (l_cons (x_v (pv 0)) l_nil)))) (blkOk_by (N := N_most_agreed) (sc := defScope s_most_agreed) (by decide +kernel)) (by decide) (onlyT (onlyCons onlyN (onlyCons onlyN (onlyCons onlyN onlyNil)))) (fun _ _ _ _ _ => (g_tup rfl (gs_cons (g_name nd rfl (by first | exact .inl rfl | exact .inr rfl)) (gs_cons (g_name nd rfl (by first | exact .inl rfl | exact .inr rfl)) (gs_cons (g_name nd rfl (by first | exact .inl rfl | exact .inr rfl)) gs_nil))))) (fun _ _ _ _ _ => ts_nil) (fun _ _ _ _ _ => (xd (cvCall co_len (pe_callB call_len rfl (e.free 82) boot_len (l_cons (x_v (pv 3)) l_nil))))))) l_nil)))))
theorem ok_most_agreed (e : En fa pr fn K mg) : ∃ fd, FnOk P w K mg base CX0 3 ((.glob "most_agreed" : Dz.Loc).ad K) fd ["sources"] (spP K 1 m_most_agreed) ∧ Binds K fd ["sources"] [] ∧ PySem.W.keepIn K (.ref ((.glob "most_agreed" : Dz.Loc).ad K)) = true := by
  obtain ⟨fd, F⟩ := e.def_ 14 (d := ⟨.glob "most_agreed", "most_agreed", "most_agreed", s_most_agreed⟩)
  exact ⟨fd, okF_most_agreed e F, F.binds (fun _ _ _ _ _ _ us hl => match us, hl with | [_], _ => rfl), F.kp⟩
/-! ### told_could -/
abbrev N_told_could : List Str := ["sources", "wrong", "fewest"]
abbrev s_told_could : Stmt := top 37
theorem sc_told_could : FnScope N_told_could ["sources", "wrong"] (defScope s_told_could) := ⟨rfl, rfl, rfl, by decide +kernel, rfl, by decide +kernel, by decide +kernel⟩
theorem okF_told_could (e : En fa pr fn K mg) {fd : FuncData} (F : Fun K "told_could" "told_could" s_told_could ((.glob "told_could" : Dz.Loc).ad K) fd) : FnOk P w K mg base CX0 4 ((.glob "told_could" : Dz.Loc).ad K) fd ["sources", "wrong"] (spP K 2 m_told_could) := by
  obtain ⟨fd_told_agreed, F_told_agreed, b_told_agreed, k_told_agreed⟩ := ok_told_agreed (P := P) (w := w) (base := base) e
  obtain ⟨fd_most_agreed, F_most_agreed, b_most_agreed, k_most_agreed⟩ := ok_most_agreed (P := P) (w := w) (base := base) e
  refine fn_P (N := N_told_could) (ps := ["sources", "wrong"]) (g := g_told_could) F sc_told_could (by decide) (fun cdv A outer s H E hr => ?_)
  have nd : N_told_could.Nodup := sc_told_could.nd
  unfold g_told_could
  exact (s_cons (s_set (i := 2) nd rfl (by first | exact .inl rfl | exact .inr rfl) (xo (x_op op_sub rd_sub (xd (cvCall co_len (pe_callB call_len rfl (e.free 82) boot_len (l_cons (x_v (pv 0)) l_nil)))) (xd (x_call (F_most_agreed.mono (by decide)) hr rfl (e.glo 14) k_most_agreed b_most_agreed (l_cons (x_v (pv 0)) l_nil))))))
  (s_one (s_ret (xo (x_if (t_cmp op_gt rd_gt (x_v (pv 2)) (x_v (pv 1)) (nomark _)) (x_tup (l_cons (x_gS rfl (e.str 65)) (l_cons (x_v (pv 2)) l_nil))) (x_tup (l_cons (x_gS rfl (e.str 64)) (l_cons (xd (x_call (F_told_agreed.mono (by decide)) hr rfl (e.glo 12) k_told_agreed b_told_agreed (l_cons (x_v (pv 0)) (l_cons (x_op op_sub rd_sub (xd (cvCall co_len (pe_callB call_len rfl (e.free 82) boot_len (l_cons (x_v (pv 0)) l_nil)))) (x_v (pv 1))) l_nil)))) l_nil))))))))
theorem ok_told_could (e : En fa pr fn K mg) : ∃ fd, FnOk P w K mg base CX0 4 ((.glob "told_could" : Dz.Loc).ad K) fd ["sources", "wrong"] (spP K 2 m_told_could) ∧ Binds K fd ["sources", "wrong"] [] ∧ PySem.W.keepIn K (.ref ((.glob "told_could" : Dz.Loc).ad K)) = true := by
  obtain ⟨fd, F⟩ := e.def_ 16 (d := ⟨.glob "told_could", "told_could", "told_could", s_told_could⟩)
  exact ⟨fd, okF_told_could e F, F.binds (fun _ _ _ _ _ _ us hl => match us, hl with | [_, _], _ => rfl), F.kp⟩
/-! ### is_integer -/
abbrev N_is_integer : List Str := ["value"]
abbrev s_is_integer : Stmt := top 16
theorem sc_is_integer : FnScope N_is_integer ["value"] (defScope s_is_integer) := ⟨rfl, rfl, rfl, by decide +kernel, rfl, by decide +kernel, by decide +kernel⟩
theorem okF_is_integer (e : En fa pr fn K mg) {fd : FuncData} (F : Fun K "is_integer" "is_integer" s_is_integer ((.glob "is_integer" : Dz.Loc).ad K) fd) : FnOk P w K mg base CX0 1 ((.glob "is_integer" : Dz.Loc).ad K) fd ["value"] (spP K 1 m_is_integer) := by
  refine fn_P (N := N_is_integer) (ps := ["value"]) (g := g_is_integer) F sc_is_integer (by decide) (fun cdv A outer s H E hr => ?_)
  have nd : N_is_integer.Nodup := sc_is_integer.nd
  unfold g_is_integer
  exact (s_one (s_ret (xo (x_and (xd (cvCall co_isi (pe_callB call_isi rfl (e.free 97) boot_isinstance (l_cons (x_v (pv 0)) (l_cons (x_ty rfl (e.free 95) boot_int) l_nil))))) (x_one (x_not (xd (cvCall co_isi (pe_callB call_isi rfl (e.free 97) boot_isinstance (l_cons (x_v (pv 0)) (l_cons (x_ty rfl (e.free 101) boot_bool) l_nil)))))))))))
theorem ok_is_integer (e : En fa pr fn K mg) : ∃ fd, FnOk P w K mg base CX0 1 ((.glob "is_integer" : Dz.Loc).ad K) fd ["value"] (spP K 1 m_is_integer) ∧ Binds K fd ["value"] [] ∧ PySem.W.keepIn K (.ref ((.glob "is_integer" : Dz.Loc).ad K)) = true := by
  obtain ⟨fd, F⟩ := e.def_ 1 (d := ⟨.glob "is_integer", "is_integer", "is_integer", s_is_integer⟩)
  exact ⟨fd, okF_is_integer e F, F.binds (fun _ _ _ _ _ _ us hl => match us, hl with | [_], _ => rfl), F.kp⟩
/-! ### is_between -/
abbrev N_is_between : List Str := ["value", "least", "most"]
abbrev s_is_between : Stmt := top 17
theorem sc_is_between : FnScope N_is_between ["value", "least", "most"] (defScope s_is_between) := ⟨rfl, rfl, rfl, by decide +kernel, rfl, by decide +kernel, by decide +kernel⟩
theorem okF_is_between (e : En fa pr fn K mg) {fd : FuncData} (F : Fun K "is_between" "is_between" s_is_between ((.glob "is_between" : Dz.Loc).ad K) fd) : FnOk P w K mg base CX0 2 ((.glob "is_between" : Dz.Loc).ad K) fd ["value", "least", "most"] (spP K 3 m_is_between) := by
  obtain ⟨fd_is_integer, F_is_integer, b_is_integer, k_is_integer⟩ := ok_is_integer (P := P) (w := w) (base := base) e
  refine fn_P (N := N_is_between) (ps := ["value", "least", "most"]) (g := g_is_between) F sc_is_between (by decide) (fun cdv A outer s H E hr => ?_)
  have nd : N_is_between.Nodup := sc_is_between.nd
  unfold g_is_between
  exact (s_one (s_ret (xo (x_and (xd (x_call (F_is_integer.mono (by decide)) hr rfl (e.glo 1) k_is_integer b_is_integer (l_cons (x_v (pv 0)) l_nil))) (x_one (x_ch op_le op_le rd_le rd_le (x_v (pv 1)) (x_v (pv 0)) (x_v (pv 2))))))))
theorem ok_is_between (e : En fa pr fn K mg) : ∃ fd, FnOk P w K mg base CX0 2 ((.glob "is_between" : Dz.Loc).ad K) fd ["value", "least", "most"] (spP K 3 m_is_between) ∧ Binds K fd ["value", "least", "most"] [] ∧ PySem.W.keepIn K (.ref ((.glob "is_between" : Dz.Loc).ad K)) = true := by
  obtain ⟨fd, F⟩ := e.def_ 2 (d := ⟨.glob "is_between", "is_between", "is_between", s_is_between⟩)
  exact ⟨fd, okF_is_between e F, F.binds (fun _ _ _ _ _ _ us hl => match us, hl with | [_, _, _], _ => rfl), F.kp⟩
/-! ### is_source -/
abbrev N_is_source : List Str := ["value", "its"]
abbrev s_is_source : Stmt := top 26
theorem sc_is_source : FnScope N_is_source ["value"] (defScope s_is_source) := ⟨rfl, rfl, rfl, by decide +kernel, rfl, by decide +kernel, by decide +kernel⟩
theorem okF_is_source (e : En fa pr fn K mg) {fd : FuncData} (F : Fun K "is_source" "is_source" s_is_source ((.glob "is_source" : Dz.Loc).ad K) fd) : FnOk P w K mg base CX0 3 ((.glob "is_source" : Dz.Loc).ad K) fd ["value"] (spP K 1 m_is_source) := by
  obtain ⟨fd_is_between, F_is_between, b_is_between, k_is_between⟩ := ok_is_between (P := P) (w := w) (base := base) e
  refine fn_P (N := N_is_source) (ps := ["value"]) (g := g_is_source) F sc_is_source (by decide) (fun cdv A outer s H E hr => ?_)
  have nd : N_is_source.Nodup := sc_is_source.nd
  unfold g_is_source
  exact (s_cons (s_if (t_w (w_or (t_not (t_val (xd (cvCall co_isi (pe_callB call_isi rfl (e.free 97) boot_isinstance (l_cons (x_v (pv 0)) (l_cons (x_ty rfl (e.free 85) boot_tuple) l_nil))))))) (w_one (t_cmp (op_neD hr.units) rd_neD (xd (cvCall co_len (pe_callB call_len rfl (e.free 82) boot_len (l_cons (x_v (pv 0)) l_nil)))) x_int (nomark _)))))
  (s_one (s_ret (xo x_bl)))
  s_nil)
  (s_one (s_ret (xo (x_and (xd (cvCall co_all (pe_callB (cr_all rfl) rfl (e.free 92) boot_all (l_cons (xd (x_lc (own := [("its", 1)]) rfl nd (i_any (x_v (pv 0))) (blkOk_by (N := N_is_source) (sc := defScope s_is_source) (by decide +kernel)) (by decide) onlyN (fun _ _ _ _ _ => (g_name nd rfl (by first | exact .inl rfl | exact .inr rfl))) (fun _ _ _ _ _ => ts_nil) (fun _ _ _ _ _ => (xd (x_call (F_is_between.mono (by decide)) hr rfl (e.glo 2) k_is_between b_is_between (l_cons (x_v (pv 1)) (l_cons (x_op op_sub rd_sub x_int (x_gI rfl (e.int 62))) (l_cons (x_gI rfl (e.int 62)) l_nil)))))))) l_nil)))) (x_one (x_cmp op_le rd_le (x_sub (hu_of hr) (x_v (pv 0)) x_int) (x_sub (hu_of hr) (x_v (pv 0)) x_int) (nomark _))))))))
theorem ok_is_source (e : En fa pr fn K mg) : ∃ fd, FnOk P w K mg base CX0 3 ((.glob "is_source" : Dz.Loc).ad K) fd ["value"] (spP K 1 m_is_source) ∧ Binds K fd ["value"] [] ∧ PySem.W.keepIn K (.ref ((.glob "is_source" : Dz.Loc).ad K)) = true := by
  obtain ⟨fd, F⟩ := e.def_ 5 (d := ⟨.glob "is_source", "is_source", "is_source", s_is_source⟩)
  exact ⟨fd, okF_is_source e F, F.binds (fun _ _ _ _ _ _ us hl => match us, hl with | [_], _ => rfl), F.kp⟩
/-! ### check_sources -/
abbrev N_check_sources : List Str := ["sources", "one"]
abbrev s_check_sources : Stmt := top 27
theorem sc_check_sources : FnScope N_check_sources ["sources"] (defScope s_check_sources) := ⟨rfl, rfl, rfl, by decide +kernel, rfl, by decide +kernel, by decide +kernel⟩
theorem okF_check_sources (e : En fa pr fn K mg) {fd : FuncData} (F : Fun K "check_sources" "check_sources" s_check_sources ((.glob "check_sources" : Dz.Loc).ad K) fd) : FnOk P w K mg base CX0 4 ((.glob "check_sources" : Dz.Loc).ad K) fd ["sources"] (spP K 1 m_check_sources) := by
  obtain ⟨fd_is_source, F_is_source, b_is_source, k_is_source⟩ := ok_is_source (P := P) (w := w) (base := base) e
  refine fn_P (N := N_check_sources) (ps := ["sources"]) (g := g_check_sources) F sc_check_sources (by decide) (fun cdv A outer s H E hr => ?_)
  have nd : N_check_sources.Nodup := sc_check_sources.nd
  unfold g_check_sources
  exact (s_cons (s_if (t_w (w_or (t_not (t_val (xd (cvCall co_isi (pe_callB call_isi rfl (e.free 97) boot_isinstance (l_cons (x_v (pv 0)) (l_cons (x_ty rfl (e.free 85) boot_tuple) l_nil))))))) (w_one (t_not (t_ch op_lt op_le rd_lt rd_le x_int (xd (cvCall co_len (pe_callB call_len rfl (e.free 82) boot_len (l_cons (x_v (pv 0)) l_nil)))) (x_gI rfl (e.int 61)))))))
  (s_one s_never)
  s_nil)
  (s_one (s_if (t_not (t_val (xd (cvCall co_all (pe_callB (cr_all rfl) rfl (e.free 92) boot_all (l_cons (xd (x_lc (own := [("one", 1)]) rfl nd (i_any (x_v (pv 0))) (blkOk_by (N := N_check_sources) (sc := defScope s_check_sources) (by decide +kernel)) (by decide) onlyN (fun _ _ _ _ _ => (g_name nd rfl (by first | exact .inl rfl | exact .inr rfl))) (fun _ _ _ _ _ => ts_nil) (fun _ _ _ _ _ => (xd (x_call (F_is_source.mono (by decide)) hr rfl (e.glo 5) k_is_source b_is_source (l_cons (x_v (pv 1)) l_nil)))))) l_nil))))))
  (s_one s_never)
  s_nil)))
theorem ok_check_sources (e : En fa pr fn K mg) : ∃ fd, FnOk P w K mg base CX0 4 ((.glob "check_sources" : Dz.Loc).ad K) fd ["sources"] (spP K 1 m_check_sources) ∧ Binds K fd ["sources"] [] ∧ PySem.W.keepIn K (.ref ((.glob "check_sources" : Dz.Loc).ad K)) = true := by
  obtain ⟨fd, F⟩ := e.def_ 6 (d := ⟨.glob "check_sources", "check_sources", "check_sources", s_check_sources⟩)
  exact ⟨fd, okF_check_sources e F, F.binds (fun _ _ _ _ _ _ us hl => match us, hl with | [_], _ => rfl), F.kp⟩
/-! ### check_wrong -/
abbrev N_check_wrong : List Str := ["sources", "wrong"]
abbrev s_check_wrong : Stmt := top 28
theorem sc_check_wrong : FnScope N_check_wrong ["sources", "wrong"] (defScope s_check_wrong) := ⟨rfl, rfl, rfl, by decide +kernel, rfl, by decide +kernel, by decide +kernel⟩
theorem okF_check_wrong (e : En fa pr fn K mg) {fd : FuncData} (F : Fun K "check_wrong" "check_wrong" s_check_wrong ((.glob "check_wrong" : Dz.Loc).ad K) fd) : FnOk P w K mg base CX0 5 ((.glob "check_wrong" : Dz.Loc).ad K) fd ["sources", "wrong"] (spP K 2 m_check_wrong) := by
  obtain ⟨fd_is_between, F_is_between, b_is_between, k_is_between⟩ := ok_is_between (P := P) (w := w) (base := base) e
  obtain ⟨fd_check_sources, F_check_sources, b_check_sources, k_check_sources⟩ := ok_check_sources (P := P) (w := w) (base := base) e
  refine fn_P (N := N_check_wrong) (ps := ["sources", "wrong"]) (g := g_check_wrong) F sc_check_wrong (by decide) (fun cdv A outer s H E hr => ?_)
  have nd : N_check_wrong.Nodup := sc_check_wrong.nd
  unfold g_check_wrong
  exact (s_cons (s_expr (xd (x_call (F_check_sources.mono (by decide)) hr rfl (e.glo 6) k_check_sources b_check_sources (l_cons (x_v (pv 0)) l_nil))))
  (s_one (s_if (t_not (t_val (xd (x_call (F_is_between.mono (by decide)) hr rfl (e.glo 2) k_is_between b_is_between (l_cons (x_v (pv 1)) (l_cons x_int (l_cons (x_op op_sub rd_sub (xd (cvCall co_len (pe_callB call_len rfl (e.free 82) boot_len (l_cons (x_v (pv 0)) l_nil)))) x_int) l_nil)))))))
  (s_one s_never)
  s_nil)))
theorem ok_check_wrong (e : En fa pr fn K mg) : ∃ fd, FnOk P w K mg base CX0 5 ((.glob "check_wrong" : Dz.Loc).ad K) fd ["sources", "wrong"] (spP K 2 m_check_wrong) ∧ Binds K fd ["sources", "wrong"] [] ∧ PySem.W.keepIn K (.ref ((.glob "check_wrong" : Dz.Loc).ad K)) = true := by
  obtain ⟨fd, F⟩ := e.def_ 7 (d := ⟨.glob "check_wrong", "check_wrong", "check_wrong", s_check_wrong⟩)
  exact ⟨fd, okF_check_wrong e F, F.binds (fun _ _ _ _ _ _ us hl => match us, hl with | [_, _], _ => rfl), F.kp⟩
/-! ### spans_if -/
abbrev N_spans_if : List Str := ["sources", "wrong", "word", "told"]
abbrev s_spans_if : Stmt := top 39
theorem sc_spans_if : FnScope N_spans_if ["sources", "wrong"] (defScope s_spans_if) := ⟨rfl, rfl, rfl, by decide +kernel, rfl, by decide +kernel, by decide +kernel⟩
theorem okF_spans_if (e : En fa pr fn K mg) {fd : FuncData} (F : Fun K "spans_if" "spans_if" s_spans_if ((.glob "spans_if" : Dz.Loc).ad K) fd) : FnOk P w K mg base CX0 6 ((.glob "spans_if" : Dz.Loc).ad K) fd ["sources", "wrong"] (spP K 2 m_spans_if) := by
  obtain ⟨fd_told_could, F_told_could, b_told_could, k_told_could⟩ := ok_told_could (P := P) (w := w) (base := base) e
  obtain ⟨fd_check_wrong, F_check_wrong, b_check_wrong, k_check_wrong⟩ := ok_check_wrong (P := P) (w := w) (base := base) e
  refine fn_P (N := N_spans_if) (ps := ["sources", "wrong"]) (g := g_spans_if) F sc_spans_if (by decide) (fun cdv A outer s H E hr => ?_)
  have nd : N_spans_if.Nodup := sc_spans_if.nd
  unfold g_spans_if
  exact (s_cons (s_expr (xd (x_call (F_check_wrong.mono (by decide)) hr rfl (e.glo 7) k_check_wrong b_check_wrong (l_cons (x_v (pv 0)) (l_cons (x_v (pv 1)) l_nil)))))
  (s_cons (s_asG (xd (x_call (F_told_could.mono (by decide)) hr rfl (e.glo 16) k_told_could b_told_could (l_cons (x_v (pv 0)) (l_cons (x_v (pv 1)) l_nil)))) (sg_tup rfl (sg_cons (sg_name (i := 2) nd rfl (by first | exact .inl rfl | exact .inr rfl)) (sg_cons (sg_name (i := 3) nd rfl (by first | exact .inl rfl | exact .inr rfl)) sg_nil))))
  (s_cons (s_if (t_cmp (op_eqD hr.units) rd_eqD (x_v (pv 2)) (x_gS rfl (e.str 65)) (nomark _))
  (s_one s_never)
  s_nil)
  (s_one (s_ret (xo (x_v (pv 3))))))))
theorem ok_spans_if (e : En fa pr fn K mg) : ∃ fd, FnOk P w K mg base CX0 6 ((.glob "spans_if" : Dz.Loc).ad K) fd ["sources", "wrong"] (spP K 2 m_spans_if) ∧ Binds K fd ["sources", "wrong"] [] ∧ PySem.W.keepIn K (.ref ((.glob "spans_if" : Dz.Loc).ad K)) = true := by
  obtain ⟨fd, F⟩ := e.def_ 18 (d := ⟨.glob "spans_if", "spans_if", "spans_if", s_spans_if⟩)
  exact ⟨fd, okF_spans_if e F, F.binds (fun _ _ _ _ _ _ us hl => match us, hl with | [_, _], _ => rfl), F.kp⟩
/-! ### hull -/
abbrev N_hull : List Str := ["sources", "wrong", "spans"]
abbrev s_hull : Stmt := top 43
theorem sc_hull : FnScope N_hull ["sources", "wrong"] (defScope s_hull) := ⟨rfl, rfl, rfl, by decide +kernel, rfl, by decide +kernel, by decide +kernel⟩
theorem okF_hull (e : En fa pr fn K mg) {fd : FuncData} (F : Fun K "hull" "hull" s_hull ((.glob "hull" : Dz.Loc).ad K) fd) : FnOk P w K mg base CX0 7 ((.glob "hull" : Dz.Loc).ad K) fd ["sources", "wrong"] (spP K 2 m_hull) := by
  obtain ⟨fd_spans_if, F_spans_if, b_spans_if, k_spans_if⟩ := ok_spans_if (P := P) (w := w) (base := base) e
  refine fn_P (N := N_hull) (ps := ["sources", "wrong"]) (g := g_hull) F sc_hull (by decide) (fun cdv A outer s H E hr => ?_)
  have nd : N_hull.Nodup := sc_hull.nd
  unfold g_hull
  exact (s_cons (s_set (i := 2) nd rfl (by first | exact .inl rfl | exact .inr rfl) (xo (xd (x_call (F_spans_if.mono (by decide)) hr rfl (e.glo 18) k_spans_if b_spans_if (l_cons (x_v (pv 0)) (l_cons (x_v (pv 1)) l_nil))))))
  (s_one (s_ret (xo (x_tup (l_cons (x_sub (hu_of hr) (x_sub (hu_of hr) (x_v (pv 2)) x_int) x_int) (l_cons (x_sub (hu_of hr) (x_sub (hu_of hr) (x_v (pv 2)) (x_un un_neg ud_neg x_int)) x_int) l_nil)))))))
theorem ok_hull (e : En fa pr fn K mg) : ∃ fd, FnOk P w K mg base CX0 7 ((.glob "hull" : Dz.Loc).ad K) fd ["sources", "wrong"] (spP K 2 m_hull) ∧ Binds K fd ["sources", "wrong"] [] ∧ PySem.W.keepIn K (.ref ((.glob "hull" : Dz.Loc).ad K)) = true := by
  obtain ⟨fd, F⟩ := e.def_ 21 (d := ⟨.glob "hull", "hull", "hull", s_hull⟩)
  exact ⟨fd, okF_hull e F, F.binds (fun _ _ _ _ _ _ us hl => match us, hl with | [_, _], _ => rfl), F.kp⟩
/-! ### LogReader.takes_letter -/
abbrev N_LogReader_takes_letter : List Str := ["self", "ends", "least", "most"]
abbrev s_LogReader_takes_letter : Stmt := inClass (top 54) 4
theorem sc_LogReader_takes_letter : FnScope N_LogReader_takes_letter ["self", "ends", "least", "most"] (defScope s_LogReader_takes_letter) := ⟨rfl, rfl, rfl, by decide +kernel, rfl, by decide +kernel, by decide +kernel⟩
theorem okF_LogReader_takes_letter (e : En fa pr fn K mg) {fd : FuncData} (F : Fun K "takes_letter" "LogReader.takes_letter" s_LogReader_takes_letter ((.meth "LogReader" "takes_letter" : Dz.Loc).ad K) fd) : FnOk P w K mg base CX0 3 ((.meth "LogReader" "takes_letter" : Dz.Loc).ad K) fd ["self", "ends", "least", "most"] (spR K 4 m_LogReader_takes_letter) := by
  obtain ⟨fd_is_between, F_is_between, b_is_between, k_is_between⟩ := ok_is_between (P := P) (w := w) (base := base) e
  refine fn_R (N := N_LogReader_takes_letter) (ps := ["self", "ends", "least", "most"]) (g := g_LogReader_takes_letter) F sc_LogReader_takes_letter (by decide) (fun cdv A outer s H E hr => ?_)
  have nd : N_LogReader_takes_letter.Nodup := sc_LogReader_takes_letter.nd
  unfold g_LogReader_takes_letter
  exact (s_cons (s_if (t_w (w_or (t_cmp (op_eqD hr.units) rd_eqD (cvLenP (pe_callB cr_lenA rfl (e.free 82) boot_len (pa_cons (p_fd (pv 0) (e.cls 103) (e.noat 105)) pa_nil))) (x_gI rfl (e.int 72)) (nomark _)) (w_or (t_inP (hu_of hr) (x_v (pv 1)) (p_fd (pv 0) (e.cls 103) (e.noat 105))) (w_one (t_cmp (op_eqD hr.units) rd_eqD (x_sub (hu_of hr) (x_v (pv 1)) x_int) (x_sub (hu_of hr) (x_v (pv 1)) x_int) (nomark _))))))
  (s_one (s_ret (xo x_bl)))
  s_nil)
  (s_cons (s_if (t_w (w_or (t_notInP (hu_of hr) (x_sub (hu_of hr) (x_v (pv 1)) x_int) (p_fd (pv 0) (e.cls 103) (e.noat 104))) (w_or (t_notInP (hu_of hr) (x_sub (hu_of hr) (x_v (pv 1)) x_int) (p_fd (pv 0) (e.cls 103) (e.noat 104))) (w_one (t_not (t_val (xd (x_call (F_is_between.mono (by decide)) hr rfl (e.glo 2) k_is_between b_is_between (l_cons (x_v (pv 2)) (l_cons x_int (l_cons (x_gI rfl (e.int 74)) l_nil)))))))))))
  (s_one (s_ret (xo x_bl)))
  s_nil)
  (s_cons (s_if (t_w (w_and (t_cmp op_notN rd_isNot (x_v (pv 3)) x_non (nomark _)) (w_one (t_not (t_val (xd (x_call (F_is_between.mono (by decide)) hr rfl (e.glo 2) k_is_between b_is_between (l_cons (x_v (pv 3)) (l_cons (x_v (pv 2)) (l_cons (x_gI rfl (e.int 74)) l_nil))))))))))
  (s_one (s_ret (xo x_bl)))
  s_nil)
  (s_cons (s_asG (x_tup (l_cons (x_v (pv 2)) (l_cons (x_v (pv 3)) l_nil))) (sg_sub (hu_of hr) (p_fd (pv 0) (e.cls 103) (e.noat 105)) (x_v (pv 1))))
  (s_one (s_ret (xo x_bl)))))))
theorem ok_LogReader_takes_letter (e : En fa pr fn K mg) : ∃ fd, FnOk P w K mg base CX0 3 ((.meth "LogReader" "takes_letter" : Dz.Loc).ad K) fd ["self", "ends", "least", "most"] (spR K 4 m_LogReader_takes_letter) ∧ Binds K fd ["self", "ends", "least", "most"] [] ∧ PySem.W.keepIn K (.ref ((.meth "LogReader" "takes_letter" : Dz.Loc).ad K)) = true := by
  obtain ⟨fd, F⟩ := e.def_ 26 (d := ⟨.meth "LogReader" "takes_letter", "takes_letter", "LogReader.takes_letter", s_LogReader_takes_letter⟩)
  exact ⟨fd, okF_LogReader_takes_letter e F, F.binds (fun _ _ _ _ _ _ us hl => match us, hl with | [_, _, _, _], _ => rfl), F.kp⟩
/-! ### read_integer -/
abbrev N_read_integer : List Str := ["word", "figures", "sign", "number"]
abbrev s_read_integer : Stmt := top 19
theorem sc_read_integer : FnScope N_read_integer ["word"] (defScope s_read_integer) := ⟨rfl, rfl, rfl, by decide +kernel, rfl, by decide +kernel, by decide +kernel⟩
theorem okF_read_integer (e : En fa pr fn K mg) {fd : FuncData} (F : Fun K "read_integer" "read_integer" s_read_integer ((.glob "read_integer" : Dz.Loc).ad K) fd) : FnOk P w K mg base CX0 1 ((.glob "read_integer" : Dz.Loc).ad K) fd ["word"] (spP K 1 m_read_integer) := by
  refine fn_P (N := N_read_integer) (ps := ["word"]) (g := g_read_integer) F sc_read_integer (by decide) (fun cdv A outer s H E hr => ?_)
  have nd : N_read_integer.Nodup := sc_read_integer.nd
  unfold g_read_integer
  exact (s_cons (s_set (i := 1) nd rfl (by first | exact .inl rfl | exact .inr rfl) (xo (x_if (t_cmp (op_eqD hr.units) rd_eqD (xd (x_sl (x_v (pv 0)) pa_no (pa_at x_int))) x_str (nomark _)) (xd (x_sl (x_v (pv 0)) (pa_at x_int) pa_no)) (x_v (pv 0)))))
  (s_cons (s_if (t_w (w_or (t_cmp (op_eqD hr.units) rd_eqD (x_v (pv 1)) x_str (nomark _)) (w_or (t_cmp op_gt rd_gt (xd (cvCall co_len (pe_callB call_len rfl (e.free 82) boot_len (l_cons (x_v (pv 1)) l_nil)))) x_int (nomark _)) (w_one (t_not (t_val (xd (cvCall co_all (pe_callB (cr_all rfl) rfl (e.free 92) boot_all (l_cons (xd (x_lc (own := [("sign", 2)]) rfl nd (i_any (x_v (pv 1))) (blkOk_by (N := N_read_integer) (sc := defScope s_read_integer) (by decide +kernel)) (by decide) onlyN (fun _ _ _ _ _ => (g_name nd rfl (by first | exact .inl rfl | exact .inr rfl))) (fun _ _ _ _ _ => ts_nil) (fun _ _ _ _ _ => (x_in (hu_of hr) (x_v (pv 2)) (x_gS rfl (e.str 59)))))) l_nil))))))))))
  (s_one (s_ret (xo x_non)))
  s_nil)
  (s_cons (s_set (i := 3) nd rfl (by first | exact .inl rfl | exact .inr rfl) (xo (xd (cvCall co_int (pe_callTy cr_intA rfl (e.free 95) boot_int (l_cons (x_v (pv 0)) l_nil))))))
  (s_one (s_ret (xo (x_if (t_cmp (op_eqD hr.units) rd_eqD (xd (cvCall co_str (pe_callTy cr_strA rfl (e.free 96) boot_str (l_cons (x_v (pv 3)) l_nil)))) (x_v (pv 0)) (nomark _)) (x_v (pv 3)) x_non)))))))
theorem ok_read_integer (e : En fa pr fn K mg) : ∃ fd, FnOk P w K mg base CX0 1 ((.glob "read_integer" : Dz.Loc).ad K) fd ["word"] (spP K 1 m_read_integer) ∧ Binds K fd ["word"] [] ∧ PySem.W.keepIn K (.ref ((.glob "read_integer" : Dz.Loc).ad K)) = true := by
  obtain ⟨fd, F⟩ := e.def_ 4 (d := ⟨.glob "read_integer", "read_integer", "read_integer", s_read_integer⟩)
  exact ⟨fd, okF_read_integer e F, F.binds (fun _ _ _ _ _ _ us hl => match us, hl with | [_], _ => rfl), F.kp⟩
/-! ### is_name -/
abbrev N_is_name : List Str := ["value", "sign"]
abbrev s_is_name : Stmt := top 18
theorem sc_is_name : FnScope N_is_name ["value"] (defScope s_is_name) := ⟨rfl, rfl, rfl, by decide +kernel, rfl, by decide +kernel, by decide +kernel⟩
theorem okF_is_name (e : En fa pr fn K mg) {fd : FuncData} (F : Fun K "is_name" "is_name" s_is_name ((.glob "is_name" : Dz.Loc).ad K) fd) : FnOk P w K mg base CX0 1 ((.glob "is_name" : Dz.Loc).ad K) fd ["value"] (spP K 1 m_is_name) := by
  refine fn_P (N := N_is_name) (ps := ["value"]) (g := g_is_name) F sc_is_name (by decide) (fun cdv A outer s H E hr => ?_)
  have nd : N_is_name.Nodup := sc_is_name.nd
  unfold g_is_name
  exact (s_cons (s_if (t_w (w_or (t_not (t_val (xd (cvCall co_isi (pe_callB call_isi rfl (e.free 97) boot_isinstance (l_cons (x_v (pv 0)) (l_cons (x_ty rfl (e.free 96) boot_str) l_nil))))))) (w_or (t_not (t_ch op_lt op_le rd_lt rd_le x_int (xd (cvCall co_len (pe_callB call_len rfl (e.free 82) boot_len (l_cons (x_v (pv 0)) l_nil)))) (x_gI rfl (e.int 60)))) (w_one (t_notIn (hu_of hr) (x_sub (hu_of hr) (x_v (pv 0)) x_int) (x_gS rfl (e.str 58)))))))
  (s_one (s_ret (xo x_bl)))
  s_nil)
  (s_one (s_ret (cvCall co_all (pe_callB (cr_all rfl) rfl (e.free 92) boot_all (l_cons (xd (x_lc (own := [("sign", 1)]) rfl nd (i_any (x_v (pv 0))) (blkOk_by (N := N_is_name) (sc := defScope s_is_name) (by decide +kernel)) (by decide) onlyN (fun _ _ _ _ _ => (g_name nd rfl (by first | exact .inl rfl | exact .inr rfl))) (fun _ _ _ _ _ => ts_nil) (fun _ _ _ _ _ => (x_or (x_in (hu_of hr) (x_v (pv 1)) (x_gS rfl (e.str 58))) (x_one (x_in (hu_of hr) (x_v (pv 1)) (x_gS rfl (e.str 59)))))))) l_nil))))))
theorem ok_is_name (e : En fa pr fn K mg) : ∃ fd, FnOk P w K mg base CX0 1 ((.glob "is_name" : Dz.Loc).ad K) fd ["value"] (spP K 1 m_is_name) ∧ Binds K fd ["value"] [] ∧ PySem.W.keepIn K (.ref ((.glob "is_name" : Dz.Loc).ad K)) = true := by
  obtain ⟨fd, F⟩ := e.def_ 3 (d := ⟨.glob "is_name", "is_name", "is_name", s_is_name⟩)
  exact ⟨fd, okF_is_name e F, F.binds (fun _ _ _ _ _ _ us hl => match us, hl with | [_], _ => rfl), F.kp⟩
/-! ### LogReader.takes_deed -/
abbrev N_LogReader_takes_deed : List Str := ["self", "name", "town", "shown"]
abbrev s_LogReader_takes_deed : Stmt := inClass (top 54) 3
theorem sc_LogReader_takes_deed : FnScope N_LogReader_takes_deed ["self", "name", "town", "shown"] (defScope s_LogReader_takes_deed) := ⟨rfl, rfl, rfl, by decide +kernel, rfl, by decide +kernel, by decide +kernel⟩
theorem okF_LogReader_takes_deed (e : En fa pr fn K mg) {fd : FuncData} (F : Fun K "takes_deed" "LogReader.takes_deed" s_LogReader_takes_deed ((.meth "LogReader" "takes_deed" : Dz.Loc).ad K) fd) : FnOk P w K mg base CX0 3 ((.meth "LogReader" "takes_deed" : Dz.Loc).ad K) fd ["self", "name", "town", "shown"] (spR K 4 m_LogReader_takes_deed) := by
  obtain ⟨fd_is_between, F_is_between, b_is_between, k_is_between⟩ := ok_is_between (P := P) (w := w) (base := base) e
  obtain ⟨fd_is_name, F_is_name, b_is_name, k_is_name⟩ := ok_is_name (P := P) (w := w) (base := base) e
  refine fn_R (N := N_LogReader_takes_deed) (ps := ["self", "name", "town", "shown"]) (g := g_LogReader_takes_deed) F sc_LogReader_takes_deed (by decide) (fun cdv A outer s H E hr => ?_)
  have nd : N_LogReader_takes_deed.Nodup := sc_LogReader_takes_deed.nd
  unfold g_LogReader_takes_deed
  exact (s_cons (s_if (t_w (w_or (t_neO hr.units0 (p_fd (pv 0) (e.cls 103) (e.noat 105))) (w_or (t_cmp (op_eqD hr.units) rd_eqD (cvLenP (pe_callB cr_lenA rfl (e.free 82) boot_len (pa_cons (p_fd (pv 0) (e.cls 103) (e.noat 104)) pa_nil))) (x_gI rfl (e.int 71)) (nomark _)) (w_or (t_not (t_val (xd (x_call (F_is_name.mono (by decide)) hr rfl (e.glo 3) k_is_name b_is_name (l_cons (x_v (pv 1)) l_nil))))) (w_one (t_inP (hu_of hr) (x_v (pv 1)) (p_fd (pv 0) (e.cls 103) (e.noat 104))))))))
  (s_one (s_ret (xo x_bl)))
  s_nil)
  (s_cons (s_if (t_w (w_or (t_notInP (hu_of hr) (x_v (pv 2)) (p_fd (pv 0) (e.cls 103) (e.noat 106))) (w_one (t_not (t_val (xd (x_call (F_is_between.mono (by decide)) hr rfl (e.glo 2) k_is_between b_is_between (l_cons (x_v (pv 3)) (l_cons x_int (l_cons (x_gI rfl (e.int 74)) l_nil))))))))))
  (s_one (s_ret (xo x_bl)))
  s_nil)
  (s_cons (s_asG (x_tup (l_cons (x_v (pv 2)) (l_cons (x_v (pv 3)) l_nil))) (sg_sub (hu_of hr) (p_fd (pv 0) (e.cls 103) (e.noat 104)) (x_v (pv 1))))
  (s_one (s_ret (xo x_bl))))))
theorem ok_LogReader_takes_deed (e : En fa pr fn K mg) : ∃ fd, FnOk P w K mg base CX0 3 ((.meth "LogReader" "takes_deed" : Dz.Loc).ad K) fd ["self", "name", "town", "shown"] (spR K 4 m_LogReader_takes_deed) ∧ Binds K fd ["self", "name", "town", "shown"] [] ∧ PySem.W.keepIn K (.ref ((.meth "LogReader" "takes_deed" : Dz.Loc).ad K)) = true := by
  obtain ⟨fd, F⟩ := e.def_ 25 (d := ⟨.meth "LogReader" "takes_deed", "takes_deed", "LogReader.takes_deed", s_LogReader_takes_deed⟩)
  exact ⟨fd, okF_LogReader_takes_deed e F, F.binds (fun _ _ _ _ _ _ us hl => match us, hl with | [_, _, _, _], _ => rfl), F.kp⟩
/-! ### LogReader.takes_town -/
abbrev N_LogReader_takes_town : List Str := ["self", "name", "low", "high"]
abbrev s_LogReader_takes_town : Stmt := inClass (top 54) 2
theorem sc_LogReader_takes_town : FnScope N_LogReader_takes_town ["self", "name", "low", "high"] (defScope s_LogReader_takes_town) := ⟨rfl, rfl, rfl, by decide +kernel, rfl, by decide +kernel, by decide +kernel⟩
theorem okF_LogReader_takes_town (e : En fa pr fn K mg) {fd : FuncData} (F : Fun K "takes_town" "LogReader.takes_town" s_LogReader_takes_town ((.meth "LogReader" "takes_town" : Dz.Loc).ad K) fd) : FnOk P w K mg base CX0 3 ((.meth "LogReader" "takes_town" : Dz.Loc).ad K) fd ["self", "name", "low", "high"] (spR K 4 m_LogReader_takes_town) := by
  obtain ⟨fd_is_between, F_is_between, b_is_between, k_is_between⟩ := ok_is_between (P := P) (w := w) (base := base) e
  obtain ⟨fd_is_name, F_is_name, b_is_name, k_is_name⟩ := ok_is_name (P := P) (w := w) (base := base) e
  refine fn_R (N := N_LogReader_takes_town) (ps := ["self", "name", "low", "high"]) (g := g_LogReader_takes_town) F sc_LogReader_takes_town (by decide) (fun cdv A outer s H E hr => ?_)
  have nd : N_LogReader_takes_town.Nodup := sc_LogReader_takes_town.nd
  unfold g_LogReader_takes_town
  exact (s_cons (s_if (t_w (w_or (t_neO hr.units0 (p_fd (pv 0) (e.cls 103) (e.noat 104))) (w_or (t_cmp (op_eqD hr.units) rd_eqD (cvLenP (pe_callB cr_lenA rfl (e.free 82) boot_len (pa_cons (p_fd (pv 0) (e.cls 103) (e.noat 106)) pa_nil))) (x_gI rfl (e.int 70)) (nomark _)) (w_or (t_not (t_val (xd (x_call (F_is_name.mono (by decide)) hr rfl (e.glo 3) k_is_name b_is_name (l_cons (x_v (pv 1)) l_nil))))) (w_one (t_inP (hu_of hr) (x_v (pv 1)) (p_fd (pv 0) (e.cls 103) (e.noat 106))))))))
  (s_one (s_ret (xo x_bl)))
  s_nil)
  (s_cons (s_if (t_w (w_or (t_not (t_val (xd (x_call (F_is_between.mono (by decide)) hr rfl (e.glo 2) k_is_between b_is_between (l_cons (x_v (pv 2)) (l_cons (x_op op_sub rd_sub x_int (x_gI rfl (e.int 73))) (l_cons (x_gI rfl (e.int 73)) l_nil))))))) (w_one (t_not (t_val (xd (x_call (F_is_between.mono (by decide)) hr rfl (e.glo 2) k_is_between b_is_between (l_cons (x_v (pv 3)) (l_cons (x_v (pv 2)) (l_cons (x_gI rfl (e.int 73)) l_nil))))))))))
  (s_one (s_ret (xo x_bl)))
  s_nil)
  (s_cons (s_asG (x_tup (l_cons (x_v (pv 2)) (l_cons (x_v (pv 3)) l_nil))) (sg_sub (hu_of hr) (p_fd (pv 0) (e.cls 103) (e.noat 106)) (x_v (pv 1))))
  (s_one (s_ret (xo x_bl))))))
theorem ok_LogReader_takes_town (e : En fa pr fn K mg) : ∃ fd, FnOk P w K mg base CX0 3 ((.meth "LogReader" "takes_town" : Dz.Loc).ad K) fd ["self", "name", "low", "high"] (spR K 4 m_LogReader_takes_town) ∧ Binds K fd ["self", "name", "low", "high"] [] ∧ PySem.W.keepIn K (.ref ((.meth "LogReader" "takes_town" : Dz.Loc).ad K)) = true := by
  obtain ⟨fd, F⟩ := e.def_ 24 (d := ⟨.meth "LogReader" "takes_town", "takes_town", "LogReader.takes_town", s_LogReader_takes_town⟩)
  exact ⟨fd, okF_LogReader_takes_town e F, F.binds (fun _ _ _ _ _ _ us hl => match us, hl with | [_, _, _, _], _ => rfl), F.kp⟩
/-! ### LogReader.takes -/
abbrev N_LogReader_takes : List Str := ["self", "line", "words", "most"]
abbrev s_LogReader_takes : Stmt := inClass (top 54) 1
theorem sc_LogReader_takes : FnScope N_LogReader_takes ["self", "line"] (defScope s_LogReader_takes) := ⟨rfl, rfl, rfl, by decide +kernel, rfl, by decide +kernel, by decide +kernel⟩
theorem okF_LogReader_takes (e : En fa pr fn K mg) {fd : FuncData} (F : Fun K "takes" "LogReader.takes" s_LogReader_takes ((.meth "LogReader" "takes" : Dz.Loc).ad K) fd) : FnOk P w K mg base CX0 4 ((.meth "LogReader" "takes" : Dz.Loc).ad K) fd ["self", "line"] (spR K 2 m_LogReader_takes) := by
  obtain ⟨fd_LogReader_takes_letter, F_LogReader_takes_letter, b_LogReader_takes_letter, k_LogReader_takes_letter⟩ := ok_LogReader_takes_letter (P := P) (w := w) (base := base) e
  obtain ⟨fd_read_integer, F_read_integer, b_read_integer, k_read_integer⟩ := ok_read_integer (P := P) (w := w) (base := base) e
  obtain ⟨fd_LogReader_takes_deed, F_LogReader_takes_deed, b_LogReader_takes_deed, k_LogReader_takes_deed⟩ := ok_LogReader_takes_deed (P := P) (w := w) (base := base) e
  obtain ⟨fd_LogReader_takes_town, F_LogReader_takes_town, b_LogReader_takes_town, k_LogReader_takes_town⟩ := ok_LogReader_takes_town (P := P) (w := w) (base := base) e
  refine fn_R (N := N_LogReader_takes) (ps := ["self", "line"]) (g := g_LogReader_takes) F sc_LogReader_takes (by decide) (fun cdv A outer s H E hr => ?_)
  have nd : N_LogReader_takes.Nodup := sc_LogReader_takes.nd
  unfold g_LogReader_takes
  exact (s_cons (s_set (i := 2) nd rfl (by first | exact .inl rfl | exact .inr rfl) (xo (xd (cvM1 m1_split (pe_split (x_v (pv 1)) x_str)))))
  (s_cons (s_if (t_w (w_and (t_cmp (op_eqD hr.units) rd_eqD (x_sub (hu_of hr) (x_v (pv 2)) x_int) (x_gS rfl (e.str 66)) (nomark _)) (w_one (t_cmp (op_eqD hr.units) rd_eqD (xd (cvCall co_len (pe_callB call_len rfl (e.free 82) boot_len (l_cons (x_v (pv 2)) l_nil)))) x_int (nomark _)))))
  (s_one (s_ret (cvMethR (pe_meth (pv 0) (e.cls 103) (e.meth 110) (F_LogReader_takes_town.mono (by decide)) hr b_LogReader_takes_town .nil pass0 (l_cons (x_sub (hu_of hr) (x_v (pv 2)) x_int) (l_cons (xd (x_call (F_read_integer.mono (by decide)) hr rfl (e.glo 4) k_read_integer b_read_integer (l_cons (x_sub (hu_of hr) (x_v (pv 2)) x_int) l_nil))) (l_cons (xd (x_call (F_read_integer.mono (by decide)) hr rfl (e.glo 4) k_read_integer b_read_integer (l_cons (x_sub (hu_of hr) (x_v (pv 2)) x_int) l_nil))) l_nil)))))))
  s_nil)
  (s_cons (s_if (t_w (w_and (t_cmp (op_eqD hr.units) rd_eqD (x_sub (hu_of hr) (x_v (pv 2)) x_int) (x_gS rfl (e.str 67)) (nomark _)) (w_one (t_cmp (op_eqD hr.units) rd_eqD (xd (cvCall co_len (pe_callB call_len rfl (e.free 82) boot_len (l_cons (x_v (pv 2)) l_nil)))) x_int (nomark _)))))
  (s_one (s_ret (cvMethR (pe_meth (pv 0) (e.cls 103) (e.meth 111) (F_LogReader_takes_deed.mono (by decide)) hr b_LogReader_takes_deed .nil pass0 (l_cons (x_sub (hu_of hr) (x_v (pv 2)) x_int) (l_cons (x_sub (hu_of hr) (x_v (pv 2)) x_int) (l_cons (xd (x_call (F_read_integer.mono (by decide)) hr rfl (e.glo 4) k_read_integer b_read_integer (l_cons (x_sub (hu_of hr) (x_v (pv 2)) x_int) l_nil))) l_nil)))))))
  s_nil)
  (s_cons (s_if (t_w (w_or (t_cmp (op_neD hr.units) rd_neD (x_sub (hu_of hr) (x_v (pv 2)) x_int) (x_gS rfl (e.str 68)) (nomark _)) (w_one (t_cmp (op_neD hr.units) rd_neD (xd (cvCall co_len (pe_callB call_len rfl (e.free 82) boot_len (l_cons (x_v (pv 2)) l_nil)))) x_int (nomark _)))))
  (s_one (s_ret (xo x_bl)))
  s_nil)
  (s_cons (s_set (i := 3) nd rfl (by first | exact .inl rfl | exact .inr rfl) (xo (x_if (t_cmp (op_eqD hr.units) rd_eqD (x_sub (hu_of hr) (x_v (pv 2)) x_int) (x_gS rfl (e.str 69)) (nomark _)) x_non (xd (x_call (F_read_integer.mono (by decide)) hr rfl (e.glo 4) k_read_integer b_read_integer (l_cons (x_sub (hu_of hr) (x_v (pv 2)) x_int) l_nil))))))
  (s_cons (s_if (t_w (w_and (t_cmp op_isN rd_is (x_v (pv 3)) x_non (nomark _)) (w_one (t_cmp (op_neD hr.units) rd_neD (x_sub (hu_of hr) (x_v (pv 2)) x_int) (x_gS rfl (e.str 69)) (nomark _)))))
  (s_one (s_ret (xo x_bl)))
  s_nil)
  (s_one (s_ret (cvMethR (pe_meth (pv 0) (e.cls 103) (e.meth 112) (F_LogReader_takes_letter.mono (by decide)) hr b_LogReader_takes_letter .nil pass0 (l_cons (x_tup (l_cons (x_sub (hu_of hr) (x_v (pv 2)) x_int) (l_cons (x_sub (hu_of hr) (x_v (pv 2)) x_int) l_nil))) (l_cons (xd (x_call (F_read_integer.mono (by decide)) hr rfl (e.glo 4) k_read_integer b_read_integer (l_cons (x_sub (hu_of hr) (x_v (pv 2)) x_int) l_nil))) (l_cons (x_v (pv 3)) l_nil)))))))))))))
theorem ok_LogReader_takes (e : En fa pr fn K mg) : ∃ fd, FnOk P w K mg base CX0 4 ((.meth "LogReader" "takes" : Dz.Loc).ad K) fd ["self", "line"] (spR K 2 m_LogReader_takes) ∧ Binds K fd ["self", "line"] [] ∧ PySem.W.keepIn K (.ref ((.meth "LogReader" "takes" : Dz.Loc).ad K)) = true := by
  obtain ⟨fd, F⟩ := e.def_ 23 (d := ⟨.meth "LogReader" "takes", "takes", "LogReader.takes", s_LogReader_takes⟩)
  exact ⟨fd, okF_LogReader_takes e F, F.binds (fun _ _ _ _ _ _ us hl => match us, hl with | [_, _], _ => rfl), F.kp⟩
/-! ### LogReader.__init__ -/
abbrev N_LogReader__init_ : List Str := ["self"]
abbrev s_LogReader__init_ : Stmt := inClass (top 54) 0
theorem sc_LogReader__init_ : FnScope N_LogReader__init_ ["self"] (defScope s_LogReader__init_) := ⟨rfl, rfl, rfl, by decide +kernel, rfl, by decide +kernel, by decide +kernel⟩
theorem okF_LogReader__init_ (e : En fa pr fn K mg) {fd : FuncData} (F : Fun K "__init__" "LogReader.__init__" s_LogReader__init_ ((.meth "LogReader" "__init__" : Dz.Loc).ad K) fd) : FnOk P w K mg base CX0 1 ((.meth "LogReader" "__init__" : Dz.Loc).ad K) fd ["self"] (spR K 1 m_LogReader__init_) := by
  refine fn_R (N := N_LogReader__init_) (ps := ["self"]) (g := g_LogReader__init_) F sc_LogReader__init_ (by decide) (fun cdv A outer s H E hr => ?_)
  have nd : N_LogReader__init_.Nodup := sc_LogReader__init_.nd
  unfold g_LogReader__init_
  exact (s_cons (s_fld (pv 0) x_newK (e.cls 103) (e.noat 106))
  (s_cons (s_fld (pv 0) x_newK (e.cls 103) (e.noat 104))
  (s_one (s_fld (pv 0) x_newT (e.cls 103) (e.noat 105)))))
theorem ok_LogReader__init_ (e : En fa pr fn K mg) : ∃ fd, FnOk P w K mg base CX0 1 ((.meth "LogReader" "__init__" : Dz.Loc).ad K) fd ["self"] (spR K 1 m_LogReader__init_) ∧ Binds K fd ["self"] [] ∧ PySem.W.keepIn K (.ref ((.meth "LogReader" "__init__" : Dz.Loc).ad K)) = true := by
  obtain ⟨fd, F⟩ := e.def_ 22 (d := ⟨.meth "LogReader" "__init__", "__init__", "LogReader.__init__", s_LogReader__init_⟩)
  exact ⟨fd, okF_LogReader__init_ e F, F.binds (fun _ _ _ _ _ _ us hl => match us, hl with | [_], _ => rfl), F.kp⟩
/-! ### Log.__init__ -/
abbrev N_Log__init_ : List Str := ["self", "text", "reader", "number", "line"]
abbrev s_Log__init_ : Stmt := inClass (top 55) 0
theorem sc_Log__init_ : FnScope N_Log__init_ ["self", "text"] (defScope s_Log__init_) := ⟨rfl, rfl, rfl, by decide +kernel, rfl, by decide +kernel, by decide +kernel⟩
theorem okF_Log__init_ (e : En fa pr fn K mg) {fd : FuncData} (F : Fun K "__init__" "Log.__init__" s_Log__init_ ((.meth "Log" "__init__" : Dz.Loc).ad K) fd) : FnOk P w K mg base CX0 5 ((.meth "Log" "__init__" : Dz.Loc).ad K) fd ["self", "text"] (spR K 2 m_Log__init_) := by
  obtain ⟨fd_LogReader_takes, F_LogReader_takes, b_LogReader_takes, k_LogReader_takes⟩ := ok_LogReader_takes (P := P) (w := w) (base := base) e
  obtain ⟨fd_LogReader__init_, F_LogReader__init_, b_LogReader__init_, k_LogReader__init_⟩ := ok_LogReader__init_ (P := P) (w := w) (base := base) e
  refine fn_R (N := N_Log__init_) (ps := ["self", "text"]) (g := g_Log__init_) F sc_Log__init_ (by decide) (fun cdv A outer s H E hr => ?_)
  have nd : N_Log__init_.Nodup := sc_Log__init_.nd
  unfold g_Log__init_
  exact (s_cons (s_if (t_not (t_val (xd (cvCall co_isi (pe_callB call_isi rfl (e.free 97) boot_isinstance (l_cons (x_v (pv 1)) (l_cons (x_ty rfl (e.free 96) boot_str) l_nil)))))))
  (s_one s_never)
  s_nil)
  (s_cons (s_set (i := 2) nd rfl (by first | exact .inl rfl | exact .inr rfl) (cvMake0 (pe_make0 (e.mkr 107) F_LogReader__init_ (hr.mono (by decide)) rfl (e.glo 55) b_LogReader__init_ .nil pass0)))
  (s_cons (s_for (vs := [3, 4]) PassesOwn.never rfl (cvEnum (pi_enum rfl (e.free 98) (l_cons (xd (cvM1 m1_split (pe_split (x_v (pv 1)) x_str))) l_nil)) (pi_enT rfl (e.free 98) (l_cons (xd (cvM1 m1_split (pe_split (x_v (pv 1)) x_str))) l_nil))) (g_tup rfl (gs_cons (g_name nd rfl (by first | exact .inl rfl | exact .inr rfl)) (gs_cons (g_name nd rfl (by first | exact .inl rfl | exact .inr rfl)) gs_nil)))
  (s_one (s_if (t_not (t_val (xd (cvMethR (pe_meth (pv 2) (e.cls 103) (e.meth 109) (F_LogReader_takes.mono (by decide)) hr b_LogReader_takes .nil pass0 (l_cons (x_v (pv 4)) l_nil))))))
  (s_one s_never)
  s_nil)))
  (s_cons (s_fld (pv 0) (xo (x_v (pv 1))) (e.cls 113) (e.noat 116))
  (s_cons (s_fld (pv 0) (xo (x_fld (x_vF (pv 2)) (e.cls 103) (e.noat 106))) (e.cls 113) (e.noat 117))
  (s_cons (s_fld (pv 0) (xo (x_fld (x_vF (pv 2)) (e.cls 103) (e.noat 104))) (e.cls 113) (e.noat 114))
  (s_one (s_fld (pv 0) (xo (x_fld (x_vF (pv 2)) (e.cls 103) (e.noat 105))) (e.cls 113) (e.noat 115)))))))))
theorem ok_Log__init_ (e : En fa pr fn K mg) : ∃ fd, FnOk P w K mg base CX0 5 ((.meth "Log" "__init__" : Dz.Loc).ad K) fd ["self", "text"] (spR K 2 m_Log__init_) ∧ Binds K fd ["self", "text"] [] ∧ PySem.W.keepIn K (.ref ((.meth "Log" "__init__" : Dz.Loc).ad K)) = true := by
  obtain ⟨fd, F⟩ := e.def_ 27 (d := ⟨.meth "Log" "__init__", "__init__", "Log.__init__", s_Log__init_⟩)
  exact ⟨fd, okF_Log__init_ e F, F.binds (fun _ _ _ _ _ _ us hl => match us, hl with | [_, _], _ => rfl), F.kp⟩
/-! ### written -/
abbrev N_written : List Str := ["towns", "deeds", "letters", "lines", "name", "low", "high", "town", "shown", "one", "other", "least", "most"]
abbrev s_written : Stmt := top 56
theorem sc_written : FnScope N_written ["towns", "deeds", "letters"] (defScope s_written) := ⟨rfl, rfl, rfl, by decide +kernel, rfl, by decide +kernel, by decide +kernel⟩
theorem okF_written (e : En fa pr fn K mg) {fd : FuncData} (F : Fun K "written" "written" s_written ((.glob "written" : Dz.Loc).ad K) fd) : FnOk P w K mg base CX0 7 ((.glob "written" : Dz.Loc).ad K) fd ["towns", "deeds", "letters"] (spP K 3 m_written) := by
  obtain ⟨fd_Log__init_, F_Log__init_, b_Log__init_, k_Log__init_⟩ := ok_Log__init_ (P := P) (w := w) (base := base) e
  refine fn_P (N := N_written) (ps := ["towns", "deeds", "letters"]) (g := g_written) F sc_written (by decide) (fun cdv A outer s H E hr => ?_)
  have nd : N_written.Nodup := sc_written.nd
  unfold g_written
  exact (s_cons (s_setLc (i := 3) (own := [("name", 4), ("low", 5), ("high", 6)]) rfl nd rfl rfl (sw_true rfl rfl rfl (by decide +kernel)) (i_any (x_v (pv 0))) (blkOk_by (N := N_written) (sc := defScope s_written) (by decide +kernel)) (by decide) (onlyT (onlyCons onlyN (onlyCons onlyN (onlyCons onlyN onlyNil)))) (fun _ _ _ _ _ => (g_tup rfl (gs_cons (g_name nd rfl (by first | exact .inl rfl | exact .inr rfl)) (gs_cons (g_name nd rfl (by first | exact .inl rfl | exact .inr rfl)) (gs_cons (g_name nd rfl (by first | exact .inl rfl | exact .inr rfl)) gs_nil))))) (fun _ _ _ _ _ => ts_nil) (fun _ _ _ _ _ => (xd (cvM1 m1_join (pe_join x_str (xd (x_lst (l_cons (x_gS rfl (e.str 66)) (l_cons (x_v (pv 4)) (l_cons (xd (cvCall co_str (pe_callTy cr_strA rfl (e.free 96) boot_str (l_cons (x_v (pv 5)) l_nil)))) (l_cons (xd (cvCall co_str (pe_callTy cr_strA rfl (e.free 96) boot_str (l_cons (x_v (pv 6)) l_nil)))) l_nil)))))))))))
  (s_cons (cvExt (by rfl) (pe_bm PySem.F.plainAttrs_list PySem.F.slot_list_extend PySem.F.type_list_extend mt_extend (p_sl (pv 3)) (pa_cons (xd (x_lc (own := [("name", 4), ("town", 7), ("shown", 8)]) rfl nd (i_any (x_v (pv 1))) (blkOk_by (N := N_written) (sc := defScope s_written) (by decide +kernel)) (by decide) (onlyT (onlyCons onlyN (onlyCons onlyN (onlyCons onlyN onlyNil)))) (fun _ _ _ _ _ => (g_tup rfl (gs_cons (g_name nd rfl (by first | exact .inl rfl | exact .inr rfl)) (gs_cons (g_name nd rfl (by first | exact .inl rfl | exact .inr rfl)) (gs_cons (g_name nd rfl (by first | exact .inl rfl | exact .inr rfl)) gs_nil))))) (fun _ _ _ _ _ => ts_nil) (fun _ _ _ _ _ => (xd (cvM1 m1_join (pe_join x_str (xd (x_lst (l_cons (x_gS rfl (e.str 67)) (l_cons (x_v (pv 4)) (l_cons (x_v (pv 7)) (l_cons (xd (cvCall co_str (pe_callTy cr_strA rfl (e.free 96) boot_str (l_cons (x_v (pv 8)) l_nil)))) l_nil)))))))))))) pa_nil)))
  (s_cons (s_for (vs := [9, 10, 11, 12]) PassesOwn.never rfl (i_any (x_v (pv 2))) (g_tup rfl (gs_cons (g_name nd rfl (by first | exact .inl rfl | exact .inr rfl)) (gs_cons (g_name nd rfl (by first | exact .inl rfl | exact .inr rfl)) (gs_cons (g_name nd rfl (by first | exact .inl rfl | exact .inr rfl)) (gs_cons (g_name nd rfl (by first | exact .inl rfl | exact .inr rfl)) gs_nil)))))
  (s_one (cvApp (by rfl) (pe_bm PySem.F.plainAttrs_list PySem.F.slot_list_append PySem.F.type_list_append mt_append (p_sl (pv 3)) (pa_cons (xd (cvM1 m1_join (pe_join x_str (xd (x_lst (l_cons (x_gS rfl (e.str 68)) (l_cons (x_v (pv 9)) (l_cons (x_v (pv 10)) (l_cons (xd (cvCall co_str (pe_callTy cr_strA rfl (e.free 96) boot_str (l_cons (x_v (pv 11)) l_nil)))) (l_cons (x_if (t_cmp op_isN rd_is (x_v (pv 12)) x_non (nomark _)) (x_gS rfl (e.str 69)) (xd (cvCall co_str (pe_callTy cr_strA rfl (e.free 96) boot_str (l_cons (x_v (pv 12)) l_nil))))) l_nil)))))))))) pa_nil)))))
  (s_one (s_ret (cvMake (pe_make (e.mkr 118) F_Log__init_ (hr.mono (by decide)) rfl (e.glo 56) b_Log__init_ .nil pass0 (l_cons (xd (cvM1 m1_join (pe_join x_str (x_vF (pv 3))))) l_nil))))))))
theorem ok_written (e : En fa pr fn K mg) : ∃ fd, FnOk P w K mg base CX0 7 ((.glob "written" : Dz.Loc).ad K) fd ["towns", "deeds", "letters"] (spP K 3 m_written) ∧ Binds K fd ["towns", "deeds", "letters"] [] ∧ PySem.W.keepIn K (.ref ((.glob "written" : Dz.Loc).ad K)) = true := by
  obtain ⟨fd, F⟩ := e.def_ 38 (d := ⟨.glob "written", "written", "written", s_written⟩)
  exact ⟨fd, okF_written e F, F.binds (fun _ _ _ _ _ _ us hl => match us, hl with | [_, _, _], _ => rfl), F.kp⟩
/-! ### Log.deeds -/
abbrev N_Log_deeds : List Str := ["self", "name"]
abbrev s_Log_deeds : Stmt := inClass (top 55) 4
theorem sc_Log_deeds : FnScope N_Log_deeds ["self"] (defScope s_Log_deeds) := ⟨rfl, rfl, rfl, by decide +kernel, rfl, by decide +kernel, by decide +kernel⟩
theorem okF_Log_deeds (e : En fa pr fn K mg) {fd : FuncData} (F : Fun K "deeds" "Log.deeds" s_Log_deeds ((.prop "Log" "deeds" : Dz.Loc).ad K) fd) : FnOk P w K mg base CX0 1 ((.prop "Log" "deeds" : Dz.Loc).ad K) fd ["self"] (spP K 1 m_Log_deeds) := by
  refine fn_P (N := N_Log_deeds) (ps := ["self"]) (g := g_Log_deeds) F sc_Log_deeds (by decide) (fun cdv A outer s H E hr => ?_)
  have nd : N_Log_deeds.Nodup := sc_Log_deeds.nd
  unfold g_Log_deeds
  exact (s_one (s_ret (cvCall co_tuple (pe_callTy call_tuple_of rfl (e.free 85) boot_tuple (l_cons (xd (x_lcP (own := [("name", 1)]) rfl nd (p_fd (pv 0) (e.cls 113) (e.noat 114)) (blkOk_by (N := N_Log_deeds) (sc := defScope s_Log_deeds) (by decide +kernel)) (by decide) onlyN (fun _ _ _ _ _ => (g_name nd rfl (by first | exact .inl rfl | exact .inr rfl))) (fun _ _ _ _ _ => ts_nil) (fun _ _ _ _ _ => (x_tup (l_cons (x_v (pv 1)) (l_star (x_sub (hu_of hr) (x_p (p_fd (pv 0) (e.cls 113) (e.noat 114))) (x_v (pv 1))) l_nil)))))) l_nil)))))
theorem ok_Log_deeds (e : En fa pr fn K mg) : ∃ fd, FnOk P w K mg base CX0 1 ((.prop "Log" "deeds" : Dz.Loc).ad K) fd ["self"] (spP K 1 m_Log_deeds) ∧ Binds K fd ["self"] [] ∧ PySem.W.keepIn K (.ref ((.prop "Log" "deeds" : Dz.Loc).ad K)) = true := by
  obtain ⟨fd, F⟩ := e.def_ 31 (d := ⟨.prop "Log" "deeds", "deeds", "Log.deeds", s_Log_deeds⟩)
  exact ⟨fd, okF_Log_deeds e F, F.binds (fun _ _ _ _ _ _ us hl => match us, hl with | [_], _ => rfl), F.kp⟩
/-! ### is_lot_of -/
abbrev N_is_lot_of : List Str := ["log", "value", "name"]
abbrev s_is_lot_of : Stmt := top 59
theorem sc_is_lot_of : FnScope N_is_lot_of ["log", "value"] (defScope s_is_lot_of) := ⟨rfl, rfl, rfl, by decide +kernel, rfl, by decide +kernel, by decide +kernel⟩
theorem okF_is_lot_of (e : En fa pr fn K mg) {fd : FuncData} (F : Fun K "is_lot_of" "is_lot_of" s_is_lot_of ((.glob "is_lot_of" : Dz.Loc).ad K) fd) : FnOk P w K mg base CX0 2 ((.glob "is_lot_of" : Dz.Loc).ad K) fd ["log", "value"] (spP K 2 m_is_lot_of) := by
  obtain ⟨fd_Log_deed_names, F_Log_deed_names, b_Log_deed_names, k_Log_deed_names⟩ := ok_Log_deed_names (P := P) (w := w) (base := base) e
  refine fn_P (N := N_is_lot_of) (ps := ["log", "value"]) (g := g_is_lot_of) F sc_is_lot_of (by decide) (fun cdv A outer s H E hr => ?_)
  have nd : N_is_lot_of.Nodup := sc_is_lot_of.nd
  unfold g_is_lot_of
  exact (s_cons (s_if (t_w (w_or (t_not (t_val (xd (cvCall co_isi (pe_callB call_isi rfl (e.free 97) boot_isinstance (l_cons (x_v (pv 1)) (l_cons (x_ty rfl (e.free 85) boot_tuple) l_nil))))))) (w_one (t_not (t_val (xd (cvCall co_all (pe_callB (cr_all rfl) rfl (e.free 92) boot_all (l_cons (xd (x_lc (own := [("name", 2)]) rfl nd (i_any (x_v (pv 1))) (blkOk_by (N := N_is_lot_of) (sc := defScope s_is_lot_of) (by decide +kernel)) (by decide) onlyN (fun _ _ _ _ _ => (g_name nd rfl (by first | exact .inl rfl | exact .inr rfl))) (fun _ _ _ _ _ => ts_nil) (fun _ _ _ _ _ => (xd (cvCall co_isi (pe_callB call_isi rfl (e.free 97) boot_isinstance (l_cons (x_v (pv 2)) (l_cons (x_ty rfl (e.free 96) boot_str) l_nil)))))))) l_nil)))))))))
  (s_one (s_ret (xo x_bl)))
  s_nil)
  (s_one (s_ret (xo (x_cmp (op_eqD hr.units) rd_eqD (x_v (pv 1)) (xd (cvCall co_tuple (pe_callTy call_tuple_of rfl (e.free 85) boot_tuple (l_cons (xd (x_lc (own := [("name", 2)]) rfl nd (i_any (xd (cvMethP0 (pe_meth0 (x_v (pv 0)) (e.cls 113) (e.meth 122) (F_Log_deed_names.mono (by decide)) hr b_Log_deed_names .nil pass0)))) (blkOk_by (N := N_is_lot_of) (sc := defScope s_is_lot_of) (by decide +kernel)) (by decide) onlyN (fun _ _ _ _ _ => (g_name nd rfl (by first | exact .inl rfl | exact .inr rfl))) (fun _ _ _ _ _ => (ts_one (t_in (hu_of hr) (x_v (pv 2)) (x_v (pv 1))))) (fun _ _ _ _ _ => (x_v (pv 2))))) l_nil)))) (nomark _))))))
theorem ok_is_lot_of (e : En fa pr fn K mg) : ∃ fd, FnOk P w K mg base CX0 2 ((.glob "is_lot_of" : Dz.Loc).ad K) fd ["log", "value"] (spP K 2 m_is_lot_of) ∧ Binds K fd ["log", "value"] [] ∧ PySem.W.keepIn K (.ref ((.glob "is_lot_of" : Dz.Loc).ad K)) = true := by
  obtain ⟨fd, F⟩ := e.def_ 41 (d := ⟨.glob "is_lot_of", "is_lot_of", "is_lot_of", s_is_lot_of⟩)
  exact ⟨fd, okF_is_lot_of e F, F.binds (fun _ _ _ _ _ _ us hl => match us, hl with | [_, _], _ => rfl), F.kp⟩
/-! ### check_lot -/
abbrev N_check_lot : List Str := ["log", "lot"]
abbrev s_check_lot : Stmt := top 60
theorem sc_check_lot : FnScope N_check_lot ["log", "lot"] (defScope s_check_lot) := ⟨rfl, rfl, rfl, by decide +kernel, rfl, by decide +kernel, by decide +kernel⟩
theorem okF_check_lot (e : En fa pr fn K mg) {fd : FuncData} (F : Fun K "check_lot" "check_lot" s_check_lot ((.glob "check_lot" : Dz.Loc).ad K) fd) : FnOk P w K mg base CX0 3 ((.glob "check_lot" : Dz.Loc).ad K) fd ["log", "lot"] (spP K 2 m_check_lot) := by
  obtain ⟨fd_is_lot_of, F_is_lot_of, b_is_lot_of, k_is_lot_of⟩ := ok_is_lot_of (P := P) (w := w) (base := base) e
  obtain ⟨fd_check_log, F_check_log, b_check_log, k_check_log⟩ := ok_check_log (P := P) (w := w) (base := base) e
  refine fn_P (N := N_check_lot) (ps := ["log", "lot"]) (g := g_check_lot) F sc_check_lot (by decide) (fun cdv A outer s H E hr => ?_)
  have nd : N_check_lot.Nodup := sc_check_lot.nd
  unfold g_check_lot
  exact (s_cons (s_expr (xd (x_call (F_check_log.mono (by decide)) hr rfl (e.glo 23) k_check_log b_check_log (l_cons (x_v (pv 0)) l_nil))))
  (s_one (s_if (t_not (t_val (xd (x_call (F_is_lot_of.mono (by decide)) hr rfl (e.glo 25) k_is_lot_of b_is_lot_of (l_cons (x_v (pv 0)) (l_cons (x_v (pv 1)) l_nil))))))
  (s_one s_never)
  s_nil)))
theorem ok_check_lot (e : En fa pr fn K mg) : ∃ fd, FnOk P w K mg base CX0 3 ((.glob "check_lot" : Dz.Loc).ad K) fd ["log", "lot"] (spP K 2 m_check_lot) ∧ Binds K fd ["log", "lot"] [] ∧ PySem.W.keepIn K (.ref ((.glob "check_lot" : Dz.Loc).ad K)) = true := by
  obtain ⟨fd, F⟩ := e.def_ 42 (d := ⟨.glob "check_lot", "check_lot", "check_lot", s_check_lot⟩)
  exact ⟨fd, okF_check_lot e F, F.binds (fun _ _ _ _ _ _ us hl => match us, hl with | [_, _], _ => rfl), F.kp⟩
/-! ### without -/
abbrev N_without : List Str := ["log", "lot", "deeds", "row", "letters"]
abbrev s_without : Stmt := top 66
theorem sc_without : FnScope N_without ["log", "lot"] (defScope s_without) := ⟨rfl, rfl, rfl, by decide +kernel, rfl, by decide +kernel, by decide +kernel⟩
theorem okF_without (e : En fa pr fn K mg) {fd : FuncData} (F : Fun K "without" "without" s_without ((.glob "without" : Dz.Loc).ad K) fd) : FnOk P w K mg base CX0 8 ((.glob "without" : Dz.Loc).ad K) fd ["log", "lot"] (spP K 2 m_without) := by
  obtain ⟨fd_written, F_written, b_written, k_written⟩ := ok_written (P := P) (w := w) (base := base) e
  obtain ⟨fd_Log_towns, F_Log_towns, b_Log_towns, k_Log_towns⟩ := ok_Log_towns (P := P) (w := w) (base := base) e
  obtain ⟨fd_Log_letters, F_Log_letters, b_Log_letters, k_Log_letters⟩ := ok_Log_letters (P := P) (w := w) (base := base) e
  obtain ⟨fd_Log_deeds, F_Log_deeds, b_Log_deeds, k_Log_deeds⟩ := ok_Log_deeds (P := P) (w := w) (base := base) e
  obtain ⟨fd_check_lot, F_check_lot, b_check_lot, k_check_lot⟩ := ok_check_lot (P := P) (w := w) (base := base) e
  refine fn_P (N := N_without) (ps := ["log", "lot"]) (g := g_without) F sc_without (by decide) (fun cdv A outer s H E hr => ?_)
  have nd : N_without.Nodup := sc_without.nd
  unfold g_without
  exact (s_cons (s_expr (xd (x_call (F_check_lot.mono (by decide)) hr rfl (e.glo 26) k_check_lot b_check_lot (l_cons (x_v (pv 0)) (l_cons (x_v (pv 1)) l_nil)))))
  (s_cons (s_setLc (i := 2) (own := [("row", 3)]) rfl nd rfl rfl (sw_true rfl rfl rfl (by decide +kernel)) (i_any (xd (cvProp (pe_prop (x_v (pv 0)) (e.cls 113) (e.prop 2) F_Log_deeds (hr.mono (by decide)) b_Log_deeds .nil pass0 rfl)))) (blkOk_by (N := N_without) (sc := defScope s_without) (by decide +kernel)) (by decide) onlyN (fun _ _ _ _ _ => (g_name nd rfl (by first | exact .inl rfl | exact .inr rfl))) (fun _ _ _ _ _ => (ts_one (t_notIn (hu_of hr) (x_sub (hu_of hr) (x_v (pv 3)) x_int) (x_v (pv 1))))) (fun _ _ _ _ _ => (x_v (pv 3))))
  (s_cons (s_setLc (i := 4) (own := [("row", 3)]) rfl nd rfl rfl (sw_true rfl rfl rfl (by decide +kernel)) (i_any (xd (cvProp (pe_prop (x_v (pv 0)) (e.cls 113) (e.prop 3) F_Log_letters (hr.mono (by decide)) b_Log_letters .nil pass0 rfl)))) (blkOk_by (N := N_without) (sc := defScope s_without) (by decide +kernel)) (by decide) onlyN (fun _ _ _ _ _ => (g_name nd rfl (by first | exact .inl rfl | exact .inr rfl))) (fun _ _ _ _ _ => (ts_one (t_w (w_and (t_notIn (hu_of hr) (x_sub (hu_of hr) (x_v (pv 3)) x_int) (x_v (pv 1))) (w_one (t_notIn (hu_of hr) (x_sub (hu_of hr) (x_v (pv 3)) x_int) (x_v (pv 1)))))))) (fun _ _ _ _ _ => (x_v (pv 3))))
  (s_one (s_ret (x_call (F_written.mono (by decide)) hr rfl (e.glo 22) k_written b_written (l_cons (xd (cvProp (pe_prop (x_v (pv 0)) (e.cls 113) (e.prop 1) F_Log_towns (hr.mono (by decide)) b_Log_towns .nil pass0 rfl))) (l_cons (x_vF (pv 2)) (l_cons (x_vF (pv 4)) l_nil)))))))))
theorem ok_without (e : En fa pr fn K mg) : ∃ fd, FnOk P w K mg base CX0 8 ((.glob "without" : Dz.Loc).ad K) fd ["log", "lot"] (spP K 2 m_without) ∧ Binds K fd ["log", "lot"] [] ∧ PySem.W.keepIn K (.ref ((.glob "without" : Dz.Loc).ad K)) = true := by
  obtain ⟨fd, F⟩ := e.def_ 47 (d := ⟨.glob "without", "without", "without", s_without⟩)
  exact ⟨fd, okF_without e F, F.binds (fun _ _ _ _ _ _ us hl => match us, hl with | [_, _], _ => rfl), F.kp⟩
/-! ### have -/
abbrev N_have : List Str := ["sources", "truth"]
abbrev s_have : Stmt := top 30
theorem sc_have : FnScope N_have ["sources", "truth"] (defScope s_have) := ⟨rfl, rfl, rfl, by decide +kernel, rfl, by decide +kernel, by decide +kernel⟩
theorem okF_have (e : En fa pr fn K mg) {fd : FuncData} (F : Fun K "have" "have" s_have ((.glob "have" : Dz.Loc).ad K) fd) : FnOk P w K mg base CX0 5 ((.glob "have" : Dz.Loc).ad K) fd ["sources", "truth"] (spP K 2 m_have) := by
  obtain ⟨fd_having, F_having, b_having, k_having⟩ := ok_having (P := P) (w := w) (base := base) e
  obtain ⟨fd_is_between, F_is_between, b_is_between, k_is_between⟩ := ok_is_between (P := P) (w := w) (base := base) e
  obtain ⟨fd_check_sources, F_check_sources, b_check_sources, k_check_sources⟩ := ok_check_sources (P := P) (w := w) (base := base) e
  refine fn_P (N := N_have) (ps := ["sources", "truth"]) (g := g_have) F sc_have (by decide) (fun cdv A outer s H E hr => ?_)
  have nd : N_have.Nodup := sc_have.nd
  unfold g_have
  exact (s_cons (s_expr (xd (x_call (F_check_sources.mono (by decide)) hr rfl (e.glo 6) k_check_sources b_check_sources (l_cons (x_v (pv 0)) l_nil))))
  (s_cons (s_if (t_not (t_val (xd (x_call (F_is_between.mono (by decide)) hr rfl (e.glo 2) k_is_between b_is_between (l_cons (x_v (pv 1)) (l_cons (x_op op_sub rd_sub x_int (x_gI rfl (e.int 63))) (l_cons (x_gI rfl (e.int 63)) l_nil)))))))
  (s_one s_never)
  s_nil)
  (s_one (s_ret (cvCall co_tuple (pe_callTy call_tuple_of rfl (e.free 85) boot_tuple (l_cons (xd (x_call (F_having.mono (by decide)) hr rfl (e.glo 8) k_having b_having (l_cons (x_v (pv 0)) (l_cons (x_v (pv 1)) l_nil)))) l_nil)))))))
theorem ok_have (e : En fa pr fn K mg) : ∃ fd, FnOk P w K mg base CX0 5 ((.glob "have" : Dz.Loc).ad K) fd ["sources", "truth"] (spP K 2 m_have) ∧ Binds K fd ["sources", "truth"] [] ∧ PySem.W.keepIn K (.ref ((.glob "have" : Dz.Loc).ad K)) = true := by
  obtain ⟨fd, F⟩ := e.def_ 9 (d := ⟨.glob "have", "have", "have", s_have⟩)
  exact ⟨fd, okF_have e F, F.binds (fun _ _ _ _ _ _ us hl => match us, hl with | [_, _], _ => rfl), F.kp⟩
/-! ### time_by -/
abbrev N_time_by : List Str := ["log", "course", "deed"]
abbrev s_time_by : Stmt := top 61
theorem sc_time_by : FnScope N_time_by ["log", "course", "deed"] (defScope s_time_by) := ⟨rfl, rfl, rfl, by decide +kernel, rfl, by decide +kernel, by decide +kernel⟩
theorem okF_time_by (e : En fa pr fn K mg) {fd : FuncData} (F : Fun K "time_by" "time_by" s_time_by ((.glob "time_by" : Dz.Loc).ad K) fd) : FnOk P w K mg base CX0 2 ((.glob "time_by" : Dz.Loc).ad K) fd ["log", "course", "deed"] (spP K 3 m_time_by) := by
  obtain ⟨fd_Log_shown_at, F_Log_shown_at, b_Log_shown_at, k_Log_shown_at⟩ := ok_Log_shown_at (P := P) (w := w) (base := base) e
  obtain ⟨fd_Log_town_names, F_Log_town_names, b_Log_town_names, k_Log_town_names⟩ := ok_Log_town_names (P := P) (w := w) (base := base) e
  obtain ⟨fd_Log_town_at, F_Log_town_at, b_Log_town_at, k_Log_town_at⟩ := ok_Log_town_at (P := P) (w := w) (base := base) e
  refine fn_P (N := N_time_by) (ps := ["log", "course", "deed"]) (g := g_time_by) F sc_time_by (by decide) (fun cdv A outer s H E hr => ?_)
  have nd : N_time_by.Nodup := sc_time_by.nd
  unfold g_time_by
  exact (s_one (s_ret (xo (x_op op_sub rd_sub (xd (cvMethP (pe_meth (x_v (pv 0)) (e.cls 113) (e.meth 125) (F_Log_shown_at.mono (by decide)) hr b_Log_shown_at .nil pass0 (l_cons (x_v (pv 2)) l_nil)))) (x_sub (hu_of hr) (x_v (pv 1)) (cvIndex (pe_bm PySem.F.plainAttrs_list PySem.F.slot_list_index PySem.F.type_list_index mt_index (xd (cvMethP0 (pe_meth0 (x_v (pv 0)) (e.cls 113) (e.meth 121) (F_Log_town_names.mono (by decide)) hr b_Log_town_names .nil pass0))) (l_cons (xd (cvMethP (pe_meth (x_v (pv 0)) (e.cls 113) (e.meth 124) (F_Log_town_at.mono (by decide)) hr b_Log_town_at .nil pass0 (l_cons (x_v (pv 2)) l_nil)))) l_nil))))))))
theorem ok_time_by (e : En fa pr fn K mg) : ∃ fd, FnOk P w K mg base CX0 2 ((.glob "time_by" : Dz.Loc).ad K) fd ["log", "course", "deed"] (spP K 3 m_time_by) ∧ Binds K fd ["log", "course", "deed"] [] ∧ PySem.W.keepIn K (.ref ((.glob "time_by" : Dz.Loc).ad K)) = true := by
  obtain ⟨fd, F⟩ := e.def_ 43 (d := ⟨.glob "time_by", "time_by", "time_by", s_time_by⟩)
  exact ⟨fd, okF_time_by e F, F.binds (fun _ _ _ _ _ _ us hl => match us, hl with | [_, _, _], _ => rfl), F.kp⟩
/-! ### is_course_of -/
abbrev N_is_course_of : List Str := ["log", "value", "off", "name", "low", "high", "one", "other", "least", "most", "took"]
abbrev s_is_course_of : Stmt := top 62
theorem sc_is_course_of : FnScope N_is_course_of ["log", "value"] (defScope s_is_course_of) := ⟨rfl, rfl, rfl, by decide +kernel, rfl, by decide +kernel, by decide +kernel⟩
theorem okF_is_course_of (e : En fa pr fn K mg) {fd : FuncData} (F : Fun K "is_course_of" "is_course_of" s_is_course_of ((.glob "is_course_of" : Dz.Loc).ad K) fd) : FnOk P w K mg base CX0 3 ((.glob "is_course_of" : Dz.Loc).ad K) fd ["log", "value"] (spP K 2 m_is_course_of) := by
  obtain ⟨fd_Log_letters, F_Log_letters, b_Log_letters, k_Log_letters⟩ := ok_Log_letters (P := P) (w := w) (base := base) e
  obtain ⟨fd_time_by, F_time_by, b_time_by, k_time_by⟩ := ok_time_by (P := P) (w := w) (base := base) e
  obtain ⟨fd_Log_towns, F_Log_towns, b_Log_towns, k_Log_towns⟩ := ok_Log_towns (P := P) (w := w) (base := base) e
  obtain ⟨fd_is_integer, F_is_integer, b_is_integer, k_is_integer⟩ := ok_is_integer (P := P) (w := w) (base := base) e
  obtain ⟨fd_Log_town_names, F_Log_town_names, b_Log_town_names, k_Log_town_names⟩ := ok_Log_town_names (P := P) (w := w) (base := base) e
  refine fn_P (N := N_is_course_of) (ps := ["log", "value"]) (g := g_is_course_of) F sc_is_course_of (by decide) (fun cdv A outer s H E hr => ?_)
  have nd : N_is_course_of.Nodup := sc_is_course_of.nd
  unfold g_is_course_of
  exact (s_cons (s_if (t_w (w_or (t_not (t_val (xd (cvCall co_isi (pe_callB call_isi rfl (e.free 97) boot_isinstance (l_cons (x_v (pv 1)) (l_cons (x_ty rfl (e.free 85) boot_tuple) l_nil))))))) (w_one (t_cmp (op_neD hr.units) rd_neD (xd (cvCall co_len (pe_callB call_len rfl (e.free 82) boot_len (l_cons (x_v (pv 1)) l_nil)))) (xd (cvCall co_len (pe_callB call_len rfl (e.free 82) boot_len (l_cons (xd (cvMethP0 (pe_meth0 (x_v (pv 0)) (e.cls 113) (e.meth 121) (F_Log_town_names.mono (by decide)) hr b_Log_town_names .nil pass0))) l_nil)))) (nomark _)))))
  (s_one (s_ret (xo x_bl)))
  s_nil)
  (s_cons (s_if (t_not (t_val (xd (cvCall co_all (pe_callB (cr_all rfl) rfl (e.free 92) boot_all (l_cons (xd (x_lc (own := [("off", 2)]) rfl nd (i_any (x_v (pv 1))) (blkOk_by (N := N_is_course_of) (sc := defScope s_is_course_of) (by decide +kernel)) (by decide) onlyN (fun _ _ _ _ _ => (g_name nd rfl (by first | exact .inl rfl | exact .inr rfl))) (fun _ _ _ _ _ => ts_nil) (fun _ _ _ _ _ => (xd (x_call (F_is_integer.mono (by decide)) hr rfl (e.glo 1) k_is_integer b_is_integer (l_cons (x_v (pv 2)) l_nil)))))) l_nil))))))
  (s_one (s_ret (xo x_bl)))
  s_nil)
  (s_cons (s_if (t_not (t_val (xd (cvCall co_all (pe_callB (cr_all rfl) rfl (e.free 92) boot_all (l_cons (xd (x_lc (own := [("off", 2), ("name", 3), ("low", 4), ("high", 5)]) rfl nd (cvZip (RZ.pi_zipA rfl (e.free 99) (l_cons (x_v (pv 1)) (l_cons (xd (cvProp (pe_prop (x_v (pv 0)) (e.cls 113) (e.prop 1) F_Log_towns (hr.mono (by decide)) b_Log_towns .nil pass0 rfl))) l_nil)))) (blkOk_by (N := N_is_course_of) (sc := defScope s_is_course_of) (by decide +kernel)) (by decide) (onlyT (onlyCons onlyN (onlyCons (onlyT (onlyCons onlyN (onlyCons onlyN (onlyCons onlyN onlyNil)))) onlyNil))) (fun _ _ _ _ _ => (g_tup rfl (gs_cons (g_name nd rfl (by first | exact .inl rfl | exact .inr rfl)) (gs_cons (g_tup rfl (gs_cons (g_name nd rfl (by first | exact .inl rfl | exact .inr rfl)) (gs_cons (g_name nd rfl (by first | exact .inl rfl | exact .inr rfl)) (gs_cons (g_name nd rfl (by first | exact .inl rfl | exact .inr rfl)) gs_nil)))) gs_nil)))) (fun _ _ _ _ _ => ts_nil) (fun _ _ _ _ _ => (x_ch op_le op_le rd_le rd_le (x_v (pv 4)) (x_v (pv 2)) (x_v (pv 5)))))) l_nil))))))
  (s_one (s_ret (xo x_bl)))
  s_nil)
  (s_cons (s_for (vs := [6, 7, 8, 9]) PassesOwn.never rfl (i_any (xd (cvProp (pe_prop (x_v (pv 0)) (e.cls 113) (e.prop 3) F_Log_letters (hr.mono (by decide)) b_Log_letters .nil pass0 rfl)))) (g_tup rfl (gs_cons (g_name nd rfl (by first | exact .inl rfl | exact .inr rfl)) (gs_cons (g_name nd rfl (by first | exact .inl rfl | exact .inr rfl)) (gs_cons (g_name nd rfl (by first | exact .inl rfl | exact .inr rfl)) (gs_cons (g_name nd rfl (by first | exact .inl rfl | exact .inr rfl)) gs_nil)))))
  (s_cons (s_set (i := 10) nd rfl (by first | exact .inl rfl | exact .inr rfl) (xo (x_op op_sub rd_sub (xd (x_call (F_time_by.mono (by decide)) hr rfl (e.glo 27) k_time_by b_time_by (l_cons (x_v (pv 0)) (l_cons (x_v (pv 1)) (l_cons (x_v (pv 7)) l_nil))))) (xd (x_call (F_time_by.mono (by decide)) hr rfl (e.glo 27) k_time_by b_time_by (l_cons (x_v (pv 0)) (l_cons (x_v (pv 1)) (l_cons (x_v (pv 6)) l_nil))))))))
  (s_one (s_if (t_w (w_or (t_cmp op_lt rd_lt (x_v (pv 10)) (x_v (pv 8)) (nomark _)) (w_one (t_w (w_and (t_cmp op_notN rd_isNot (x_v (pv 9)) x_non (nomark _)) (w_one (t_cmp op_gt rd_gt (x_v (pv 10)) (x_v (pv 9)) (nomark _))))))))
  (s_one (s_ret (xo x_bl)))
  s_nil))))
  (s_one (s_ret (xo x_bl)))))))
theorem ok_is_course_of (e : En fa pr fn K mg) : ∃ fd, FnOk P w K mg base CX0 3 ((.glob "is_course_of" : Dz.Loc).ad K) fd ["log", "value"] (spP K 2 m_is_course_of) ∧ Binds K fd ["log", "value"] [] ∧ PySem.W.keepIn K (.ref ((.glob "is_course_of" : Dz.Loc).ad K)) = true := by
  obtain ⟨fd, F⟩ := e.def_ 44 (d := ⟨.glob "is_course_of", "is_course_of", "is_course_of", s_is_course_of⟩)
  exact ⟨fd, okF_is_course_of e F, F.binds (fun _ _ _ _ _ _ us hl => match us, hl with | [_, _], _ => rfl), F.kp⟩
/-! ### check_course -/
abbrev N_check_course : List Str := ["log", "course"]
abbrev s_check_course : Stmt := top 63
theorem sc_check_course : FnScope N_check_course ["log", "course"] (defScope s_check_course) := ⟨rfl, rfl, rfl, by decide +kernel, rfl, by decide +kernel, by decide +kernel⟩
theorem okF_check_course (e : En fa pr fn K mg) {fd : FuncData} (F : Fun K "check_course" "check_course" s_check_course ((.glob "check_course" : Dz.Loc).ad K) fd) : FnOk P w K mg base CX0 4 ((.glob "check_course" : Dz.Loc).ad K) fd ["log", "course"] (spP K 2 m_check_course) := by
  obtain ⟨fd_is_course_of, F_is_course_of, b_is_course_of, k_is_course_of⟩ := ok_is_course_of (P := P) (w := w) (base := base) e
  obtain ⟨fd_check_log, F_check_log, b_check_log, k_check_log⟩ := ok_check_log (P := P) (w := w) (base := base) e
  refine fn_P (N := N_check_course) (ps := ["log", "course"]) (g := g_check_course) F sc_check_course (by decide) (fun cdv A outer s H E hr => ?_)
  have nd : N_check_course.Nodup := sc_check_course.nd
  unfold g_check_course
  exact (s_cons (s_expr (xd (x_call (F_check_log.mono (by decide)) hr rfl (e.glo 23) k_check_log b_check_log (l_cons (x_v (pv 0)) l_nil))))
  (s_one (s_if (t_not (t_val (xd (x_call (F_is_course_of.mono (by decide)) hr rfl (e.glo 28) k_is_course_of b_is_course_of (l_cons (x_v (pv 0)) (l_cons (x_v (pv 1)) l_nil))))))
  (s_one s_never)
  s_nil)))
theorem ok_check_course (e : En fa pr fn K mg) : ∃ fd, FnOk P w K mg base CX0 4 ((.glob "check_course" : Dz.Loc).ad K) fd ["log", "course"] (spP K 2 m_check_course) ∧ Binds K fd ["log", "course"] [] ∧ PySem.W.keepIn K (.ref ((.glob "check_course" : Dz.Loc).ad K)) = true := by
  obtain ⟨fd, F⟩ := e.def_ 45 (d := ⟨.glob "check_course", "check_course", "check_course", s_check_course⟩)
  exact ⟨fd, okF_check_course e F, F.binds (fun _ _ _ _ _ _ us hl => match us, hl with | [_, _], _ => rfl), F.kp⟩
/-! ### times -/
abbrev N_times : List Str := ["log", "course", "deed"]
abbrev s_times : Stmt := top 64
theorem sc_times : FnScope N_times ["log", "course"] (defScope s_times) := ⟨rfl, rfl, rfl, by decide +kernel, rfl, by decide +kernel, by decide +kernel⟩
theorem okF_times (e : En fa pr fn K mg) {fd : FuncData} (F : Fun K "times" "times" s_times ((.glob "times" : Dz.Loc).ad K) fd) : FnOk P w K mg base CX0 5 ((.glob "times" : Dz.Loc).ad K) fd ["log", "course"] (spP K 2 m_times) := by
  obtain ⟨fd_Log_deed_names, F_Log_deed_names, b_Log_deed_names, k_Log_deed_names⟩ := ok_Log_deed_names (P := P) (w := w) (base := base) e
  obtain ⟨fd_time_by, F_time_by, b_time_by, k_time_by⟩ := ok_time_by (P := P) (w := w) (base := base) e
  obtain ⟨fd_check_course, F_check_course, b_check_course, k_check_course⟩ := ok_check_course (P := P) (w := w) (base := base) e
  refine fn_P (N := N_times) (ps := ["log", "course"]) (g := g_times) F sc_times (by decide) (fun cdv A outer s H E hr => ?_)
  have nd : N_times.Nodup := sc_times.nd
  unfold g_times
  exact (s_cons (s_expr (xd (x_call (F_check_course.mono (by decide)) hr rfl (e.glo 29) k_check_course b_check_course (l_cons (x_v (pv 0)) (l_cons (x_v (pv 1)) l_nil)))))
  (s_one (s_ret (cvCall co_tuple (pe_callTy call_tuple_of rfl (e.free 85) boot_tuple (l_cons (xd (x_lc (own := [("deed", 2)]) rfl nd (i_any (xd (cvMethP0 (pe_meth0 (x_v (pv 0)) (e.cls 113) (e.meth 122) (F_Log_deed_names.mono (by decide)) hr b_Log_deed_names .nil pass0)))) (blkOk_by (N := N_times) (sc := defScope s_times) (by decide +kernel)) (by decide) onlyN (fun _ _ _ _ _ => (g_name nd rfl (by first | exact .inl rfl | exact .inr rfl))) (fun _ _ _ _ _ => ts_nil) (fun _ _ _ _ _ => (xd (x_call (F_time_by.mono (by decide)) hr rfl (e.glo 27) k_time_by b_time_by (l_cons (x_v (pv 0)) (l_cons (x_v (pv 1)) (l_cons (x_v (pv 2)) l_nil)))))))) l_nil))))))
theorem ok_times (e : En fa pr fn K mg) : ∃ fd, FnOk P w K mg base CX0 5 ((.glob "times" : Dz.Loc).ad K) fd ["log", "course"] (spP K 2 m_times) ∧ Binds K fd ["log", "course"] [] ∧ PySem.W.keepIn K (.ref ((.glob "times" : Dz.Loc).ad K)) = true := by
  obtain ⟨fd, F⟩ := e.def_ 46 (d := ⟨.glob "times", "times", "times", s_times⟩)
  exact ⟨fd, okF_times e F, F.binds (fun _ _ _ _ _ _ us hl => match us, hl with | [_, _], _ => rfl), F.kp⟩
/-! ### surely_wrong -/
abbrev N_surely_wrong : List Str := ["sources", "wrong", "spans", "found", "at", "low", "high", "least", "most"]
abbrev s_surely_wrong : Stmt := top 40
theorem sc_surely_wrong : FnScope N_surely_wrong ["sources", "wrong"] (defScope s_surely_wrong) := ⟨rfl, rfl, rfl, by decide +kernel, rfl, by decide +kernel, by decide +kernel⟩
theorem okF_surely_wrong (e : En fa pr fn K mg) {fd : FuncData} (F : Fun K "surely_wrong" "surely_wrong" s_surely_wrong ((.glob "surely_wrong" : Dz.Loc).ad K) fd) : FnOk P w K mg base CX0 7 ((.glob "surely_wrong" : Dz.Loc).ad K) fd ["sources", "wrong"] (spP K 2 m_surely_wrong) := by
  obtain ⟨fd_spans_if, F_spans_if, b_spans_if, k_spans_if⟩ := ok_spans_if (P := P) (w := w) (base := base) e
  refine fn_P (N := N_surely_wrong) (ps := ["sources", "wrong"]) (g := g_surely_wrong) F sc_surely_wrong (by decide) (fun cdv A outer s H E hr => ?_)
  have nd : N_surely_wrong.Nodup := sc_surely_wrong.nd
  unfold g_surely_wrong
  exact (s_cons (imS (ps_par (i := 2) (j := 3) rfl nd rfl rfl (by decide) rfl rfl (lo_cons (xo (xd (x_call (F_spans_if.mono (by decide)) hr rfl (e.glo 18) k_spans_if b_spans_if (l_cons (x_v (pv 0)) (l_cons (x_v (pv 1)) l_nil))))) (lo_cons (x_lst l_nil) lo_nil)) rfl) fun _ _ _ w => tS_parO (by decide) _ _ _ w)
  (s_cons (s_for (vs := [4, 5, 6]) PassesOwn.never rfl (cvEnum (pi_enum rfl (e.free 98) (l_cons (x_v (pv 0)) l_nil)) (pi_enT rfl (e.free 98) (l_cons (x_v (pv 0)) l_nil))) (g_tup rfl (gs_cons (g_name nd rfl (by first | exact .inl rfl | exact .inr rfl)) (gs_cons (g_tup rfl (gs_cons (g_name nd rfl (by first | exact .inl rfl | exact .inr rfl)) (gs_cons (g_name nd rfl (by first | exact .inl rfl | exact .inr rfl)) gs_nil))) gs_nil)))
  (s_one (s_if (t_not (t_val (xd (cvCall co_any (pe_callB (cr_any rfl) rfl (e.free 93) boot_any (l_cons (xd (x_lc (own := [("least", 7), ("most", 8)]) rfl nd (i_any (x_v (pv 2))) (blkOk_by (N := N_surely_wrong) (sc := defScope s_surely_wrong) (by decide +kernel)) (by decide) (onlyT (onlyCons onlyN (onlyCons onlyN onlyNil))) (fun _ _ _ _ _ => (g_tup rfl (gs_cons (g_name nd rfl (by first | exact .inl rfl | exact .inr rfl)) (gs_cons (g_name nd rfl (by first | exact .inl rfl | exact .inr rfl)) gs_nil)))) (fun _ _ _ _ _ => ts_nil) (fun _ _ _ _ _ => (x_and (x_cmp op_le rd_le (x_v (pv 7)) (x_v (pv 6)) (nomark _)) (x_one (x_cmp op_le rd_le (x_v (pv 5)) (x_v (pv 8)) (nomark _))))))) l_nil))))))
  (s_one (cvApp (by rfl) (pe_bm PySem.F.plainAttrs_list PySem.F.slot_list_append PySem.F.type_list_append mt_append (p_sl (pv 3)) (pa_cons (x_v (pv 4)) pa_nil))))
  s_nil)))
  (s_one (s_ret (cvCall co_tuple (pe_callTy call_tuple_of rfl (e.free 85) boot_tuple (l_cons (x_vF (pv 3)) l_nil)))))))
theorem ok_surely_wrong (e : En fa pr fn K mg) : ∃ fd, FnOk P w K mg base CX0 7 ((.glob "surely_wrong" : Dz.Loc).ad K) fd ["sources", "wrong"] (spP K 2 m_surely_wrong) ∧ Binds K fd ["sources", "wrong"] [] ∧ PySem.W.keepIn K (.ref ((.glob "surely_wrong" : Dz.Loc).ad K)) = true := by
  obtain ⟨fd, F⟩ := e.def_ 19 (d := ⟨.glob "surely_wrong", "surely_wrong", "surely_wrong", s_surely_wrong⟩)
  exact ⟨fd, okF_surely_wrong e F, F.binds (fun _ _ _ _ _ _ us hl => match us, hl with | [_, _], _ => rfl), F.kp⟩
/-! ### agreed -/
abbrev N_agreed : List Str := ["sources", "many"]
abbrev s_agreed : Stmt := top 34
theorem sc_agreed : FnScope N_agreed ["sources", "many"] (defScope s_agreed) := ⟨rfl, rfl, rfl, by decide +kernel, rfl, by decide +kernel, by decide +kernel⟩
theorem okF_agreed (e : En fa pr fn K mg) {fd : FuncData} (F : Fun K "agreed" "agreed" s_agreed ((.glob "agreed" : Dz.Loc).ad K) fd) : FnOk P w K mg base CX0 5 ((.glob "agreed" : Dz.Loc).ad K) fd ["sources", "many"] (spP K 2 m_agreed) := by
  obtain ⟨fd_told_agreed, F_told_agreed, b_told_agreed, k_told_agreed⟩ := ok_told_agreed (P := P) (w := w) (base := base) e
  obtain ⟨fd_is_between, F_is_between, b_is_between, k_is_between⟩ := ok_is_between (P := P) (w := w) (base := base) e
  obtain ⟨fd_check_sources, F_check_sources, b_check_sources, k_check_sources⟩ := ok_check_sources (P := P) (w := w) (base := base) e
  refine fn_P (N := N_agreed) (ps := ["sources", "many"]) (g := g_agreed) F sc_agreed (by decide) (fun cdv A outer s H E hr => ?_)
  have nd : N_agreed.Nodup := sc_agreed.nd
  unfold g_agreed
  exact (s_cons (s_expr (xd (x_call (F_check_sources.mono (by decide)) hr rfl (e.glo 6) k_check_sources b_check_sources (l_cons (x_v (pv 0)) l_nil))))
  (s_cons (s_if (t_not (t_val (xd (x_call (F_is_between.mono (by decide)) hr rfl (e.glo 2) k_is_between b_is_between (l_cons (x_v (pv 1)) (l_cons x_int (l_cons (xd (cvCall co_len (pe_callB call_len rfl (e.free 82) boot_len (l_cons (x_v (pv 0)) l_nil)))) l_nil)))))))
  (s_one s_never)
  s_nil)
  (s_one (s_ret (x_call (F_told_agreed.mono (by decide)) hr rfl (e.glo 12) k_told_agreed b_told_agreed (l_cons (x_v (pv 0)) (l_cons (x_v (pv 1)) l_nil)))))))
theorem ok_agreed (e : En fa pr fn K mg) : ∃ fd, FnOk P w K mg base CX0 5 ((.glob "agreed" : Dz.Loc).ad K) fd ["sources", "many"] (spP K 2 m_agreed) ∧ Binds K fd ["sources", "many"] [] ∧ PySem.W.keepIn K (.ref ((.glob "agreed" : Dz.Loc).ad K)) = true := by
  obtain ⟨fd, F⟩ := e.def_ 13 (d := ⟨.glob "agreed", "agreed", "agreed", s_agreed⟩)
  exact ⟨fd, okF_agreed e F, F.binds (fun _ _ _ _ _ _ us hl => match us, hl with | [_, _], _ => rfl), F.kp⟩
/-! ### truth_spans -/
abbrev N_truth_spans : List Str := ["sources", "wrong"]
abbrev s_truth_spans : Stmt := top 38
theorem sc_truth_spans : FnScope N_truth_spans ["sources", "wrong"] (defScope s_truth_spans) := ⟨rfl, rfl, rfl, by decide +kernel, rfl, by decide +kernel, by decide +kernel⟩
theorem okF_truth_spans (e : En fa pr fn K mg) {fd : FuncData} (F : Fun K "truth_spans" "truth_spans" s_truth_spans ((.glob "truth_spans" : Dz.Loc).ad K) fd) : FnOk P w K mg base CX0 6 ((.glob "truth_spans" : Dz.Loc).ad K) fd ["sources", "wrong"] (spP K 2 m_truth_spans) := by
  obtain ⟨fd_told_could, F_told_could, b_told_could, k_told_could⟩ := ok_told_could (P := P) (w := w) (base := base) e
  obtain ⟨fd_check_wrong, F_check_wrong, b_check_wrong, k_check_wrong⟩ := ok_check_wrong (P := P) (w := w) (base := base) e
  refine fn_P (N := N_truth_spans) (ps := ["sources", "wrong"]) (g := g_truth_spans) F sc_truth_spans (by decide) (fun cdv A outer s H E hr => ?_)
  have nd : N_truth_spans.Nodup := sc_truth_spans.nd
  unfold g_truth_spans
  exact (s_cons (s_expr (xd (x_call (F_check_wrong.mono (by decide)) hr rfl (e.glo 7) k_check_wrong b_check_wrong (l_cons (x_v (pv 0)) (l_cons (x_v (pv 1)) l_nil)))))
  (s_one (s_ret (x_call (F_told_could.mono (by decide)) hr rfl (e.glo 16) k_told_could b_told_could (l_cons (x_v (pv 0)) (l_cons (x_v (pv 1)) l_nil))))))
theorem ok_truth_spans (e : En fa pr fn K mg) : ∃ fd, FnOk P w K mg base CX0 6 ((.glob "truth_spans" : Dz.Loc).ad K) fd ["sources", "wrong"] (spP K 2 m_truth_spans) ∧ Binds K fd ["sources", "wrong"] [] ∧ PySem.W.keepIn K (.ref ((.glob "truth_spans" : Dz.Loc).ad K)) = true := by
  obtain ⟨fd, F⟩ := e.def_ 17 (d := ⟨.glob "truth_spans", "truth_spans", "truth_spans", s_truth_spans⟩)
  exact ⟨fd, okF_truth_spans e F, F.binds (fun _ _ _ _ _ _ us hl => match us, hl with | [_, _], _ => rfl), F.kp⟩
/-! ### Reach.course -/
abbrev N_Reach_course : List Str := ["self", "one", "clock"]
abbrev s_Reach_course : Stmt := inClass (top 77) 7
theorem sc_Reach_course : FnScope N_Reach_course ["self", "one"] (defScope s_Reach_course) := ⟨rfl, rfl, rfl, by decide +kernel, rfl, by decide +kernel, by decide +kernel⟩
theorem okF_Reach_course (e : En fa pr fn K mg) {fd : FuncData} (F : Fun K "course" "Reach.course" s_Reach_course ((.meth "Reach" "course" : Dz.Loc).ad K) fd) : FnOk P w K mg base CX0 2 ((.meth "Reach" "course" : Dz.Loc).ad K) fd ["self", "one"] (spP K 2 m_Reach_course) := by
  obtain ⟨fd_Reach_most, F_Reach_most, b_Reach_most, k_Reach_most⟩ := ok_Reach_most (P := P) (w := w) (base := base) e
  refine fn_P (N := N_Reach_course) (ps := ["self", "one"]) (g := g_Reach_course) F sc_Reach_course (by decide) (fun cdv A outer s H E hr => ?_)
  have nd : N_Reach_course.Nodup := sc_Reach_course.nd
  unfold g_Reach_course
  exact (s_one (s_ret (cvCall co_tuple (pe_callTy call_tuple_of rfl (e.free 85) boot_tuple (l_cons (xd (x_lc (own := [("clock", 2)]) rfl nd (i_any (xd (x_sl (x_p (p_fd (pv 0) (e.cls 126) (e.noat 127))) (pa_at x_int) pa_no))) (blkOk_by (N := N_Reach_course) (sc := defScope s_Reach_course) (by decide +kernel)) (by decide) onlyN (fun _ _ _ _ _ => (g_name nd rfl (by first | exact .inl rfl | exact .inr rfl))) (fun _ _ _ _ _ => ts_nil) (fun _ _ _ _ _ => (x_op op_sub rd_sub (xd (cvMethP (pe_meth (x_v (pv 0)) (e.cls 126) (e.meth 138) (F_Reach_most.mono (by decide)) hr b_Reach_most .nil pass0 (l_cons (x_v (pv 1)) (l_cons (x_v (pv 2)) l_nil))))) (xd (cvMethP (pe_meth (x_v (pv 0)) (e.cls 126) (e.meth 138) (F_Reach_most.mono (by decide)) hr b_Reach_most .nil pass0 (l_cons (x_v (pv 1)) (l_cons (x_gS rfl (e.str 77)) l_nil))))))))) l_nil)))))
theorem ok_Reach_course (e : En fa pr fn K mg) : ∃ fd, FnOk P w K mg base CX0 2 ((.meth "Reach" "course" : Dz.Loc).ad K) fd ["self", "one"] (spP K 2 m_Reach_course) ∧ Binds K fd ["self", "one"] [] ∧ PySem.W.keepIn K (.ref ((.meth "Reach" "course" : Dz.Loc).ad K)) = true := by
  obtain ⟨fd, F⟩ := e.def_ 57 (d := ⟨.meth "Reach" "course", "course", "Reach.course", s_Reach_course⟩)
  exact ⟨fd, okF_Reach_course e F, F.binds (fun _ _ _ _ _ _ us hl => match us, hl with | [_, _], _ => rfl), F.kp⟩
/-! ### fitting -/
abbrev N_fitting : List Str := ["log", "reach"]
abbrev s_fitting : Stmt := top 79
theorem sc_fitting : FnScope N_fitting ["log"] (defScope s_fitting) := ⟨rfl, rfl, rfl, by decide +kernel, rfl, by decide +kernel, by decide +kernel⟩
theorem okF_fitting (e : En fa pr fn K mg) {fd : FuncData} (F : Fun K "fitting" "fitting" s_fitting ((.glob "fitting" : Dz.Loc).ad K) fd) : FnOk P w K mg base CX0 6 ((.glob "fitting" : Dz.Loc).ad K) fd ["log"] (spP K 1 m_fitting) := by
  obtain ⟨fd_Reach_ring, F_Reach_ring, b_Reach_ring, k_Reach_ring⟩ := ok_Reach_ring (P := P) (w := w) (base := base) e
  obtain ⟨fd_Reach_course, F_Reach_course, b_Reach_course, k_Reach_course⟩ := ok_Reach_course (P := P) (w := w) (base := base) e
  obtain ⟨fd_Reach__init_, F_Reach__init_, b_Reach__init_, k_Reach__init_⟩ := ok_Reach__init_ (P := P) (w := w) (base := base) e
  obtain ⟨fd_check_log, F_check_log, b_check_log, k_check_log⟩ := ok_check_log (P := P) (w := w) (base := base) e
  refine fn_P (N := N_fitting) (ps := ["log"]) (g := g_fitting) F sc_fitting (by decide) (fun cdv A outer s H E hr => ?_)
  have nd : N_fitting.Nodup := sc_fitting.nd
  unfold g_fitting
  exact (s_cons (s_expr (xd (x_call (F_check_log.mono (by decide)) hr rfl (e.glo 23) k_check_log b_check_log (l_cons (x_v (pv 0)) l_nil))))
  (s_cons (s_set (i := 1) nd rfl (by first | exact .inl rfl | exact .inr rfl) (xo (xd (cvMake (pe_make (e.mkr 132) F_Reach__init_ (hr.mono (by decide)) rfl (e.glo 57) b_Reach__init_ .nil pass0 (l_cons (x_v (pv 0)) l_nil))))))
  (s_one (s_ret (xo (x_if (t_cmp op_isN rd_is (xd (cvMethP0 (pe_meth0 (x_v (pv 1)) (e.cls 126) (e.meth 137) (F_Reach_ring.mono (by decide)) hr b_Reach_ring .nil pass0))) x_non (nomark _)) (x_tup (l_cons (x_gS rfl (e.str 75)) (l_cons (xd (cvMethP (pe_meth (x_v (pv 1)) (e.cls 126) (e.meth 140) (F_Reach_course.mono (by decide)) hr b_Reach_course .nil pass0 (l_cons (x_gS rfl (e.str 77)) l_nil)))) l_nil))) (x_tup (l_cons (x_gS rfl (e.str 76)) (l_cons (xd (cvMethP0 (pe_meth0 (x_v (pv 1)) (e.cls 126) (e.meth 137) (F_Reach_ring.mono (by decide)) hr b_Reach_ring .nil pass0))) l_nil)))))))))
theorem ok_fitting (e : En fa pr fn K mg) : ∃ fd, FnOk P w K mg base CX0 6 ((.glob "fitting" : Dz.Loc).ad K) fd ["log"] (spP K 1 m_fitting) ∧ Binds K fd ["log"] [] ∧ PySem.W.keepIn K (.ref ((.glob "fitting" : Dz.Loc).ad K)) = true := by
  obtain ⟨fd, F⟩ := e.def_ 59 (d := ⟨.glob "fitting", "fitting", "fitting", s_fitting⟩)
  exact ⟨fd, okF_fitting e F, F.binds (fun _ _ _ _ _ _ us hl => match us, hl with | [_], _ => rfl), F.kp⟩
/-! ### _law_text -/
abbrev N__law_text : List Str := ["rows", "lines", "at", "low", "high", "shown", "row"]
abbrev s__law_text : Stmt := top 88
theorem sc__law_text : FnScope N__law_text ["rows"] (defScope s__law_text) := ⟨rfl, rfl, rfl, by decide +kernel, rfl, by decide +kernel, by decide +kernel⟩
theorem okF__law_text (e : En fa pr fn K mg) {fd : FuncData} (F : Fun K "_law_text" "_law_text" s__law_text ((.glob "_law_text" : Dz.Loc).ad K) fd) : FnOk P w K mg base CX0 1 ((.glob "_law_text" : Dz.Loc).ad K) fd ["rows"] (spP K 1 m__law_text) := by
  refine fn_P (N := N__law_text) (ps := ["rows"]) (g := g__law_text) F sc__law_text (by decide) (fun cdv A outer s H E hr => ?_)
  have nd : N__law_text.Nodup := sc__law_text.nd
  unfold g__law_text
  exact (s_cons (s_setLc (i := 1) (own := [("at", 2), ("low", 3), ("high", 4), ("shown", 5)]) rfl nd rfl rfl (sw_true rfl rfl rfl (by decide +kernel)) (cvEnum (pi_enum rfl (e.free 98) (l_cons (x_v (pv 0)) l_nil)) (pi_enT rfl (e.free 98) (l_cons (x_v (pv 0)) l_nil))) (blkOk_by (N := N__law_text) (sc := defScope s__law_text) (by decide +kernel)) (by decide) (onlyT (onlyCons onlyN (onlyCons (onlyT (onlyCons onlyN (onlyCons onlyN (onlyCons onlyN onlyNil)))) onlyNil))) (fun _ _ _ _ _ => (g_tup rfl (gs_cons (g_name nd rfl (by first | exact .inl rfl | exact .inr rfl)) (gs_cons (g_tup rfl (gs_cons (g_name nd rfl (by first | exact .inl rfl | exact .inr rfl)) (gs_cons (g_name nd rfl (by first | exact .inl rfl | exact .inr rfl)) (gs_cons (g_name nd rfl (by first | exact .inl rfl | exact .inr rfl)) gs_nil)))) gs_nil)))) (fun _ _ _ _ _ => ts_nil) (fun _ _ _ _ _ => (x_op op_addA rd_addA (x_op op_addA rd_addA (x_op op_addA rd_addA (x_op op_addA rd_addA (x_op op_addA rd_addA x_str (xd (cvCall co_str (pe_callTy cr_strA rfl (e.free 96) boot_str (l_cons (x_v (pv 2)) l_nil))))) x_str) (xd (cvCall co_str (pe_callTy cr_strA rfl (e.free 96) boot_str (l_cons (x_v (pv 3)) l_nil))))) x_str) (xd (cvCall co_str (pe_callTy cr_strA rfl (e.free 96) boot_str (l_cons (x_v (pv 4)) l_nil)))))))
  (s_cons (cvExt (by rfl) (pe_bm PySem.F.plainAttrs_list PySem.F.slot_list_extend PySem.F.type_list_extend mt_extend (p_sl (pv 1)) (pa_cons (xd (x_lc (own := [("at", 2), ("row", 6)]) rfl nd (cvEnum (pi_enum rfl (e.free 98) (l_cons (x_v (pv 0)) l_nil)) (pi_enT rfl (e.free 98) (l_cons (x_v (pv 0)) l_nil))) (blkOk_by (N := N__law_text) (sc := defScope s__law_text) (by decide +kernel)) (by decide) (onlyT (onlyCons onlyN (onlyCons onlyN onlyNil))) (fun _ _ _ _ _ => (g_tup rfl (gs_cons (g_name nd rfl (by first | exact .inl rfl | exact .inr rfl)) (gs_cons (g_name nd rfl (by first | exact .inl rfl | exact .inr rfl)) gs_nil)))) (fun _ _ _ _ _ => ts_nil) (fun _ _ _ _ _ => (x_op op_addA rd_addA (x_op op_addA rd_addA (x_op op_addA rd_addA (x_op op_addA rd_addA (x_op op_addA rd_addA x_str (xd (cvCall co_str (pe_callTy cr_strA rfl (e.free 96) boot_str (l_cons (x_v (pv 2)) l_nil))))) x_str) (xd (cvCall co_str (pe_callTy cr_strA rfl (e.free 96) boot_str (l_cons (x_v (pv 2)) l_nil))))) x_str) (xd (cvCall co_str (pe_callTy cr_strA rfl (e.free 96) boot_str (l_cons (x_sub (hu_of hr) (x_v (pv 6)) x_int) l_nil)))))))) pa_nil)))
  (s_cons (s_for (vs := [2]) PassesOwn.never rfl (cvRng1 (pi_range1 rfl (e.free 83) (l_cons (x_op op_sub rd_sub (xd (cvCall co_len (pe_callB call_len rfl (e.free 82) boot_len (l_cons (x_v (pv 0)) l_nil)))) x_int) l_nil))) (g_name nd rfl (by first | exact .inl rfl | exact .inr rfl))
  (s_one (cvApp (by rfl) (pe_bm PySem.F.plainAttrs_list PySem.F.slot_list_append PySem.F.type_list_append mt_append (p_sl (pv 1)) (pa_cons (x_op op_addA rd_addA (x_op op_addA rd_addA (x_op op_addA rd_addA (x_op op_addA rd_addA x_str (xd (cvCall co_str (pe_callTy cr_strA rfl (e.free 96) boot_str (l_cons (x_v (pv 2)) l_nil))))) x_str) (xd (cvCall co_str (pe_callTy cr_strA rfl (e.free 96) boot_str (l_cons (x_op op_addA rd_addA (x_v (pv 2)) x_int) l_nil))))) x_str) pa_nil)))))
  (s_one (s_ret (cvM1 m1_join (pe_join x_str (x_vF (pv 1)))))))))
theorem ok__law_text (e : En fa pr fn K mg) : ∃ fd, FnOk P w K mg base CX0 1 ((.glob "_law_text" : Dz.Loc).ad K) fd ["rows"] (spP K 1 m__law_text) ∧ Binds K fd ["rows"] [] ∧ PySem.W.keepIn K (.ref ((.glob "_law_text" : Dz.Loc).ad K)) = true := by
  obtain ⟨fd, F⟩ := e.def_ 66 (d := ⟨.glob "_law_text", "_law_text", "_law_text", s__law_text⟩)
  exact ⟨fd, okF__law_text e F, F.binds (fun _ _ _ _ _ _ us hl => match us, hl with | [_], _ => rfl), F.kp⟩
/-! ### _law_take -/
abbrev N__law_take : List Str := ["pot", "upto", "digit", "prime", "blend"]
abbrev s__law_take : Stmt := top 85
theorem sc__law_take : FnScope N__law_take ["pot", "upto"] (defScope s__law_take) := ⟨rfl, rfl, rfl, by decide +kernel, rfl, by decide +kernel, by decide +kernel⟩
theorem okF__law_take (e : En fa pr fn K mg) {fd : FuncData} (F : Fun K "_law_take" "_law_take" s__law_take ((.glob "_law_take" : Dz.Loc).ad K) fd) : FnOk P w K mg base CX0 1 ((.glob "_law_take" : Dz.Loc).ad K) fd ["pot", "upto"] (spR K 2 m__law_take) := by
  refine fn_R (N := N__law_take) (ps := ["pot", "upto"]) (g := g__law_take) F sc__law_take (by decide) (fun cdv A outer s H E hr => ?_)
  have nd : N__law_take.Nodup := sc__law_take.nd
  unfold g__law_take
  exact (s_cons (s_if (t_cmp op_gt rd_gt (x_subP (hu_of hr) (p_sl (pv 0)) x_int) x_int (nomark _))
  (s_cons (s_set (i := 2) nd rfl (by first | exact .inl rfl | exact .inr rfl) (xo (x_op op_mod rd_mod (xd (cvCall co_int (pe_callTy cr_intA rfl (e.free 95) boot_int (l_cons (x_subP (hu_of hr) (p_sl (pv 0)) x_int) l_nil)))) (x_v (pv 1)))))
  (s_cons (s_asG (x_op op_fdivW rd_div (x_subP (hu_of hr) (p_sl (pv 0)) x_int) (x_v (pv 1))) (sg_sub (hu_of hr) (p_sl (pv 0)) x_int))
  (s_one (s_ret (xo (x_v (pv 2)))))))
  s_nil)
  (s_cons (s_asG (x_op op_addA rd_addA (x_subP (hu_of hr) (p_sl (pv 0)) x_int) x_int) (sg_sub (hu_of hr) (p_sl (pv 0)) x_int))
  (s_cons (s_set (i := 3) nd rfl (by first | exact .inl rfl | exact .inr rfl) (xo (x_sub (hu_of hr) (xd (x_lst (l_cons x_int (l_cons x_int (l_cons x_int (l_cons x_int (l_cons x_int l_nil))))))) (x_op op_mod rd_mod (xd (cvCall co_int (pe_callTy cr_intA rfl (e.free 95) boot_int (l_cons (x_subP (hu_of hr) (p_sl (pv 0)) x_int) l_nil)))) x_int))))
  (s_cons (s_set (i := 4) nd rfl (by first | exact .inl rfl | exact .inr rfl) (xo (x_op op_mod rd_mod (xd (cvCall co_int (pe_callTy cr_intA rfl (e.free 95) boot_int (l_cons (x_op op_powW rd_pow (xd (cvCall co_int (pe_callTy cr_intA rfl (e.free 95) boot_int (l_cons (x_op op_addA rd_addA (x_op op_addA rd_addA (x_subP (hu_of hr) (p_sl (pv 0)) x_int) (x_op op_mul rd_mul (x_op op_mul rd_mul x_int (x_subP (hu_of hr) (p_sl (pv 0)) x_int)) (x_subP (hu_of hr) (p_sl (pv 0)) x_int))) x_int) l_nil)))) x_int) l_nil)))) (x_v (pv 3)))))
  (s_cons (s_set (i := 4) nd rfl (by first | exact .inl rfl | exact .inr rfl) (xo (x_op op_mod rd_mod (xd (cvCall co_int (pe_callTy cr_intA rfl (e.free 95) boot_int (l_cons (x_op op_mul rd_mul (x_v (pv 4)) (x_op op_addA rd_addA (x_op op_mod rd_mod (xd (cvCall co_int (pe_callTy cr_intA rfl (e.free 95) boot_int (l_cons (x_v (pv 4)) l_nil)))) x_int) (x_op op_mul rd_mul x_int (x_subP (hu_of hr) (p_sl (pv 0)) x_int)))) l_nil)))) x_int)))
  (s_one (s_ret (xo (x_op op_mod rd_mod (xd (cvCall co_int (pe_callTy cr_intA rfl (e.free 95) boot_int (l_cons (x_op op_fdivW rd_div (x_v (pv 4)) x_int) l_nil)))) (x_v (pv 1)))))))))))
theorem ok__law_take (e : En fa pr fn K mg) : ∃ fd, FnOk P w K mg base CX0 1 ((.glob "_law_take" : Dz.Loc).ad K) fd ["pot", "upto"] (spR K 2 m__law_take) ∧ Binds K fd ["pot", "upto"] [] ∧ PySem.W.keepIn K (.ref ((.glob "_law_take" : Dz.Loc).ad K)) = true := by
  obtain ⟨fd, F⟩ := e.def_ 63 (d := ⟨.glob "_law_take", "_law_take", "_law_take", s__law_take⟩)
  exact ⟨fd, okF__law_take e F, F.binds (fun _ _ _ _ _ _ us hl => match us, hl with | [_, _], _ => rfl), F.kp⟩
/-! ### best_agreed -/
abbrev N_best_agreed : List Str := ["sources", "number"]
abbrev s_best_agreed : Stmt := top 36
theorem sc_best_agreed : FnScope N_best_agreed ["sources"] (defScope s_best_agreed) := ⟨rfl, rfl, rfl, by decide +kernel, rfl, by decide +kernel, by decide +kernel⟩
theorem okF_best_agreed (e : En fa pr fn K mg) {fd : FuncData} (F : Fun K "best_agreed" "best_agreed" s_best_agreed ((.glob "best_agreed" : Dz.Loc).ad K) fd) : FnOk P w K mg base CX0 5 ((.glob "best_agreed" : Dz.Loc).ad K) fd ["sources"] (spP K 1 m_best_agreed) := by
  obtain ⟨fd_told_agreed, F_told_agreed, b_told_agreed, k_told_agreed⟩ := ok_told_agreed (P := P) (w := w) (base := base) e
  obtain ⟨fd_most_agreed, F_most_agreed, b_most_agreed, k_most_agreed⟩ := ok_most_agreed (P := P) (w := w) (base := base) e
  obtain ⟨fd_check_sources, F_check_sources, b_check_sources, k_check_sources⟩ := ok_check_sources (P := P) (w := w) (base := base) e
  refine fn_P (N := N_best_agreed) (ps := ["sources"]) (g := g_best_agreed) F sc_best_agreed (by decide) (fun cdv A outer s H E hr => ?_)
  have nd : N_best_agreed.Nodup := sc_best_agreed.nd
  unfold g_best_agreed
  exact (s_cons (s_expr (xd (x_call (F_check_sources.mono (by decide)) hr rfl (e.glo 6) k_check_sources b_check_sources (l_cons (x_v (pv 0)) l_nil))))
  (s_cons (s_set (i := 1) nd rfl (by first | exact .inl rfl | exact .inr rfl) (xo (xd (x_call (F_most_agreed.mono (by decide)) hr rfl (e.glo 14) k_most_agreed b_most_agreed (l_cons (x_v (pv 0)) l_nil)))))
  (s_one (s_ret (xo (x_tup (l_cons (x_v (pv 1)) (l_cons (xd (x_call (F_told_agreed.mono (by decide)) hr rfl (e.glo 12) k_told_agreed b_told_agreed (l_cons (x_v (pv 0)) (l_cons (x_v (pv 1)) l_nil)))) l_nil))))))))
theorem ok_best_agreed (e : En fa pr fn K mg) : ∃ fd, FnOk P w K mg base CX0 5 ((.glob "best_agreed" : Dz.Loc).ad K) fd ["sources"] (spP K 1 m_best_agreed) ∧ Binds K fd ["sources"] [] ∧ PySem.W.keepIn K (.ref ((.glob "best_agreed" : Dz.Loc).ad K)) = true := by
  obtain ⟨fd, F⟩ := e.def_ 15 (d := ⟨.glob "best_agreed", "best_agreed", "best_agreed", s_best_agreed⟩)
  exact ⟨fd, okF_best_agreed e F, F.binds (fun _ _ _ _ _ _ us hl => match us, hl with | [_], _ => rfl), F.kp⟩
/-! ### trimmed -/
abbrev N_trimmed : List Str := ["sources", "wrong", "lows", "highs", "low", "high"]
abbrev s_trimmed : Stmt := top 42
theorem sc_trimmed : FnScope N_trimmed ["sources", "wrong"] (defScope s_trimmed) := ⟨rfl, rfl, rfl, by decide +kernel, rfl, by decide +kernel, by decide +kernel⟩
theorem okF_trimmed (e : En fa pr fn K mg) {fd : FuncData} (F : Fun K "trimmed" "trimmed" s_trimmed ((.glob "trimmed" : Dz.Loc).ad K) fd) : FnOk P w K mg base CX0 6 ((.glob "trimmed" : Dz.Loc).ad K) fd ["sources", "wrong"] (spP K 2 m_trimmed) := by
  obtain ⟨fd_check_wrong, F_check_wrong, b_check_wrong, k_check_wrong⟩ := ok_check_wrong (P := P) (w := w) (base := base) e
  refine fn_P (N := N_trimmed) (ps := ["sources", "wrong"]) (g := g_trimmed) F sc_trimmed (by decide) (fun cdv A outer s H E hr => ?_)
  have nd : N_trimmed.Nodup := sc_trimmed.nd
  unfold g_trimmed
  exact (s_cons (s_expr (xd (x_call (F_check_wrong.mono (by decide)) hr rfl (e.glo 7) k_check_wrong b_check_wrong (l_cons (x_v (pv 0)) (l_cons (x_v (pv 1)) l_nil)))))
  (s_cons (imS (ps_par (i := 2) (j := 3) rfl nd rfl rfl (by decide) rfl rfl (lo_cons (xo (xd (cvCall co_sortedI (pe_callB cr_sortedI rfl (e.free 88) boot_sorted (l_cons (xd (x_lc (own := [("low", 4), ("high", 5)]) rfl nd (i_any (x_v (pv 0))) (blkOk_by (N := N_trimmed) (sc := defScope s_trimmed) (by decide +kernel)) (by decide) (onlyT (onlyCons onlyN (onlyCons onlyN onlyNil))) (fun _ _ _ _ _ => (g_tup rfl (gs_cons (g_name nd rfl (by first | exact .inl rfl | exact .inr rfl)) (gs_cons (g_name nd rfl (by first | exact .inl rfl | exact .inr rfl)) gs_nil)))) (fun _ _ _ _ _ => ts_nil) (fun _ _ _ _ _ => (x_v (pv 4))))) l_nil))))) (lo_cons (xo (xd (cvCall co_sortedI (pe_callB cr_sortedI rfl (e.free 88) boot_sorted (l_cons (xd (x_lc (own := [("low", 4), ("high", 5)]) rfl nd (i_any (x_v (pv 0))) (blkOk_by (N := N_trimmed) (sc := defScope s_trimmed) (by decide +kernel)) (by decide) (onlyT (onlyCons onlyN (onlyCons onlyN onlyNil))) (fun _ _ _ _ _ => (g_tup rfl (gs_cons (g_name nd rfl (by first | exact .inl rfl | exact .inr rfl)) (gs_cons (g_name nd rfl (by first | exact .inl rfl | exact .inr rfl)) gs_nil)))) (fun _ _ _ _ _ => ts_nil) (fun _ _ _ _ _ => (x_v (pv 5))))) l_nil))))) lo_nil)) rfl) fun _ _ _ w => tS_parO (by decide) _ _ _ w)
  (s_one (s_ret (xo (x_tup (l_cons (x_sub (hu_of hr) (x_v (pv 2)) (x_op op_sub rd_sub (x_op op_sub rd_sub (xd (cvCall co_len (pe_callB call_len rfl (e.free 82) boot_len (l_cons (x_v (pv 2)) l_nil)))) x_int) (x_v (pv 1)))) (l_cons (x_sub (hu_of hr) (x_v (pv 3)) (x_v (pv 1))) l_nil))))))))
theorem ok_trimmed (e : En fa pr fn K mg) : ∃ fd, FnOk P w K mg base CX0 6 ((.glob "trimmed" : Dz.Loc).ad K) fd ["sources", "wrong"] (spP K 2 m_trimmed) ∧ Binds K fd ["sources", "wrong"] [] ∧ PySem.W.keepIn K (.ref ((.glob "trimmed" : Dz.Loc).ad K)) = true := by
  obtain ⟨fd, F⟩ := e.def_ 20 (d := ⟨.glob "trimmed", "trimmed", "trimmed", s_trimmed⟩)
  exact ⟨fd, okF_trimmed e F, F.binds (fun _ _ _ _ _ _ us hl => match us, hl with | [_, _], _ => rfl), F.kp⟩
/-! ### _law_of -/
abbrev N__law_of : List Str := ["pot", "some"]
abbrev s__law_of : Stmt := top 86
theorem sc__law_of : FnScope N__law_of ["pot", "some"] (defScope s__law_of) := ⟨rfl, rfl, rfl, by decide +kernel, rfl, by decide +kernel, by decide +kernel⟩
theorem okF__law_of (e : En fa pr fn K mg) {fd : FuncData} (F : Fun K "_law_of" "_law_of" s__law_of ((.glob "_law_of" : Dz.Loc).ad K) fd) : FnOk P w K mg base CX0 2 ((.glob "_law_of" : Dz.Loc).ad K) fd ["pot", "some"] (spR K 2 m__law_of) := by
  obtain ⟨fd__law_take, F__law_take, b__law_take, k__law_take⟩ := ok__law_take (P := P) (w := w) (base := base) e
  refine fn_R (N := N__law_of) (ps := ["pot", "some"]) (g := g__law_of) F sc__law_of (by decide) (fun cdv A outer s H E hr => ?_)
  have nd : N__law_of.Nodup := sc__law_of.nd
  unfold g__law_of
  exact (s_one (s_ret (xo (x_sub (hu_of hr) (x_v (pv 1)) (xd (x_callR (F__law_take.mono (by decide)) hr rfl (e.glo 39) k__law_take b__law_take (pv 0) (l_cons (xd (cvCall co_len (pe_callB call_len rfl (e.free 82) boot_len (l_cons (x_v (pv 1)) l_nil)))) l_nil)))))))
theorem ok__law_of (e : En fa pr fn K mg) : ∃ fd, FnOk P w K mg base CX0 2 ((.glob "_law_of" : Dz.Loc).ad K) fd ["pot", "some"] (spR K 2 m__law_of) ∧ Binds K fd ["pot", "some"] [] ∧ PySem.W.keepIn K (.ref ((.glob "_law_of" : Dz.Loc).ad K)) = true := by
  obtain ⟨fd, F⟩ := e.def_ 64 (d := ⟨.glob "_law_of", "_law_of", "_law_of", s__law_of⟩)
  exact ⟨fd, okF__law_of e F, F.binds (fun _ _ _ _ _ _ us hl => match us, hl with | [_, _], _ => rfl), F.kp⟩
/-! ### _law_right -/
abbrev N__law_right : List Str := ["pot", "many", "rows", "wide", "at", "low", "log", "sources", "high", "shown", "told", "fits", "row", "rest", "some", "spot", "known", "time", "last"]
abbrev s__law_right : Stmt := top 89
theorem sc__law_right : FnScope N__law_right ["pot"] (defScope s__law_right) := ⟨rfl, rfl, rfl, by decide +kernel, rfl, by decide +kernel, by decide +kernel⟩
theorem okF__law_right (e : En fa pr fn K mg) {fd : FuncData} (F : Fun K "_law_right" "_law_right" s__law_right ((.glob "_law_right" : Dz.Loc).ad K) fd) : FnOk P w K mg base CX0 9 ((.glob "_law_right" : Dz.Loc).ad K) fd ["pot"] (spR K 1 m__law_right) := by
  obtain ⟨fd_span_of, F_span_of, b_span_of, k_span_of⟩ := ok_span_of (P := P) (w := w) (base := base) e
  obtain ⟨fd_hull, F_hull, b_hull, k_hull⟩ := ok_hull (P := P) (w := w) (base := base) e
  obtain ⟨fd_without, F_without, b_without, k_without⟩ := ok_without (P := P) (w := w) (base := base) e
  obtain ⟨fd_have, F_have, b_have, k_have⟩ := ok_have (P := P) (w := w) (base := base) e
  obtain ⟨fd_times, F_times, b_times, k_times⟩ := ok_times (P := P) (w := w) (base := base) e
  obtain ⟨fd_surely_wrong, F_surely_wrong, b_surely_wrong, k_surely_wrong⟩ := ok_surely_wrong (P := P) (w := w) (base := base) e
  obtain ⟨fd_agreed, F_agreed, b_agreed, k_agreed⟩ := ok_agreed (P := P) (w := w) (base := base) e
  obtain ⟨fd_truth_spans, F_truth_spans, b_truth_spans, k_truth_spans⟩ := ok_truth_spans (P := P) (w := w) (base := base) e
  obtain ⟨fd_fitting, F_fitting, b_fitting, k_fitting⟩ := ok_fitting (P := P) (w := w) (base := base) e
  obtain ⟨fd_Log__init_, F_Log__init_, b_Log__init_, k_Log__init_⟩ := ok_Log__init_ (P := P) (w := w) (base := base) e
  obtain ⟨fd__law_text, F__law_text, b__law_text, k__law_text⟩ := ok__law_text (P := P) (w := w) (base := base) e
  obtain ⟨fd__law_take, F__law_take, b__law_take, k__law_take⟩ := ok__law_take (P := P) (w := w) (base := base) e
  obtain ⟨fd_best_agreed, F_best_agreed, b_best_agreed, k_best_agreed⟩ := ok_best_agreed (P := P) (w := w) (base := base) e
  obtain ⟨fd_trimmed, F_trimmed, b_trimmed, k_trimmed⟩ := ok_trimmed (P := P) (w := w) (base := base) e
  obtain ⟨fd__law_of, F__law_of, b__law_of, k__law_of⟩ := ok__law_of (P := P) (w := w) (base := base) e
  refine fn_R (N := N__law_right) (ps := ["pot"]) (g := g__law_right) F sc__law_right (by decide) (fun cdv A outer s H E hr => ?_)
  have nd : N__law_right.Nodup := sc__law_right.nd
  unfold g__law_right
  exact (s_cons (imS (ps_par3 (i := 1) (j := 2) (l := 3) rfl nd rfl rfl rfl (by decide) (by decide) (by decide) rfl rfl rfl (lo_cons (xo (x_op op_addA rd_addA x_int (xd (x_callR (F__law_take.mono (by decide)) hr rfl (e.glo 39) k__law_take b__law_take (pv 0) (l_cons x_int l_nil))))) (lo_cons (x_lst l_nil) (lo_cons (xo (xd (x_callR (F__law_of.mono (by decide)) hr rfl (e.glo 40) k__law_of b__law_of (pv 0) (l_cons (xd (x_lst (l_cons x_int (l_cons x_int (l_cons x_int l_nil))))) l_nil)))) lo_nil))) rfl) fun _ _ _ w => tS_parO3 (by decide) (by decide) (by decide) _ _ _ w)
  (s_cons (s_for (vs := [4]) PassesOwn.never rfl (cvRng1 (pi_range1 rfl (e.free 83) (l_cons (x_v (pv 1)) l_nil))) (g_name nd rfl (by first | exact .inl rfl | exact .inr rfl))
  (s_cons (s_set (i := 5) nd rfl (by first | exact .inl rfl | exact .inr rfl) (xo (xd (cvCall co_int (pe_callTy cr_intA rfl (e.free 95) boot_int (l_cons (x_op op_sub rd_sub (xd (x_callR (F__law_take.mono (by decide)) hr rfl (e.glo 39) k__law_take b__law_take (pv 0) (l_cons x_int l_nil))) x_int) l_nil))))))
  (s_one (cvApp (by rfl) (pe_bm PySem.F.plainAttrs_list PySem.F.slot_list_append PySem.F.type_list_append mt_append (p_sl (pv 2)) (pa_cons (x_tup (l_cons (x_v (pv 5)) (l_cons (xd (cvCall co_int (pe_callTy cr_intA rfl (e.free 95) boot_int (l_cons (x_op op_addA rd_addA (x_v (pv 5)) (xd (x_callR (F__law_take.mono (by decide)) hr rfl (e.glo 39) k__law_take b__law_take (pv 0) (l_cons (x_v (pv 3)) l_nil)))) l_nil)))) (l_cons (xd (cvCall co_int (pe_callTy cr_intA rfl (e.free 95) boot_int (l_cons (x_op op_addA rd_addA x_int (xd (x_callR (F__law_take.mono (by decide)) hr rfl (e.glo 39) k__law_take b__law_take (pv 0) (l_cons (xd (x_callR (F__law_of.mono (by decide)) hr rfl (e.glo 40) k__law_of b__law_of (pv 0) (l_cons (xd (x_lst (l_cons x_int (l_cons x_int l_nil)))) l_nil))) l_nil)))) l_nil)))) l_nil)))) pa_nil))))))
  (s_cons (s_set (i := 6) nd rfl (by first | exact .inl rfl | exact .inr rfl) (xo (xd (cvMake (pe_make (e.mkr 118) F_Log__init_ (hr.mono (by decide)) rfl (e.glo 56) b_Log__init_ .nil pass0 (l_cons (xd (x_call (F__law_text.mono (by decide)) hr rfl (e.glo 42) k__law_text b__law_text (l_cons (x_vF (pv 2)) l_nil))) l_nil))))))
  (s_cons (s_set (i := 7) nd rfl (by first | exact .inl rfl | exact .inr rfl) (xo (xd (cvCall co_tuple (pe_callTy call_tuple_of rfl (e.free 85) boot_tuple (l_cons (xd (x_lc (own := [("low", 5), ("high", 8), ("shown", 9)]) rfl nd (i_any (x_vF (pv 2))) (blkOk_by (N := N__law_right) (sc := defScope s__law_right) (by decide +kernel)) (by decide) (onlyT (onlyCons onlyN (onlyCons onlyN (onlyCons onlyN onlyNil)))) (fun _ _ _ _ _ => (g_tup rfl (gs_cons (g_name nd rfl (by first | exact .inl rfl | exact .inr rfl)) (gs_cons (g_name nd rfl (by first | exact .inl rfl | exact .inr rfl)) (gs_cons (g_name nd rfl (by first | exact .inl rfl | exact .inr rfl)) gs_nil))))) (fun _ _ _ _ _ => ts_nil) (fun _ _ _ _ _ => (x_tup (l_cons (x_op op_sub rd_sub (x_v (pv 9)) (x_v (pv 8))) (l_cons (x_op op_sub rd_sub (x_v (pv 9)) (x_v (pv 5))) l_nil)))))) l_nil))))))
  (s_cons (imS (ps_par (i := 10) (j := 11) rfl nd rfl rfl (by decide) rfl rfl (lo_cons (xo (xd (x_call (F_truth_spans.mono (by decide)) hr rfl (e.glo 17) k_truth_spans b_truth_spans (l_cons (x_v (pv 7)) (l_cons x_int l_nil))))) (lo_cons (xo (xd (x_call (F_fitting.mono (by decide)) hr rfl (e.glo 35) k_fitting b_fitting (l_cons (x_v (pv 6)) l_nil)))) lo_nil)) rfl) fun _ _ _ w => tS_parO (by decide) _ _ _ w)
  (s_cons (s_if (t_cmp (op_neD hr.units) rd_neD (x_cmp (op_eqD hr.units) rd_eqD (x_sub (hu_of hr) (x_v (pv 10)) x_int) x_str (nomark _)) (x_cmp (op_eqD hr.units) rd_eqD (x_sub (hu_of hr) (x_v (pv 11)) x_int) x_str (nomark _)) (nomark _))
  (s_one (s_ret (xo x_bl)))
  s_nil)
  (s_cons (s_asG (x_tup (l_cons (xd (cvCall co_max (pe_callB (cr_max rfl) rfl (e.free 90) boot_max (l_cons (xd (x_lc (own := [("row", 12)]) rfl nd (i_any (x_v (pv 7))) (blkOk_by (N := N__law_right) (sc := defScope s__law_right) (by decide +kernel)) (by decide) onlyN (fun _ _ _ _ _ => (g_name nd rfl (by first | exact .inl rfl | exact .inr rfl))) (fun _ _ _ _ _ => ts_nil) (fun _ _ _ _ _ => (x_sub (hu_of hr) (x_v (pv 12)) x_int)))) l_nil)))) (l_cons (xd (cvCall co_min (pe_callB (cr_min rfl) rfl (e.free 91) boot_min (l_cons (xd (x_lc (own := [("row", 12)]) rfl nd (i_any (x_v (pv 7))) (blkOk_by (N := N__law_right) (sc := defScope s__law_right) (by decide +kernel)) (by decide) onlyN (fun _ _ _ _ _ => (g_name nd rfl (by first | exact .inl rfl | exact .inr rfl))) (fun _ _ _ _ _ => ts_nil) (fun _ _ _ _ _ => (x_sub (hu_of hr) (x_v (pv 12)) x_int)))) l_nil)))) l_nil))) (sg_tup rfl (sg_cons (sg_name (i := 5) nd rfl (by first | exact .inl rfl | exact .inr rfl)) (sg_cons (sg_name (i := 8) nd rfl (by first | exact .inl rfl | exact .inr rfl)) sg_nil))))
  (s_cons (s_if (t_w (w_or (t_cmp (op_neD hr.units) rd_neD (x_cmp op_le rd_le (x_v (pv 5)) (x_v (pv 8)) (nomark _)) (x_cmp (op_eqD hr.units) rd_eqD (x_sub (hu_of hr) (x_v (pv 10)) x_int) x_str (nomark _)) (nomark _)) (w_one (t_cmp (op_neD hr.units) rd_neD (xd (x_call (F_trimmed.mono (by decide)) hr rfl (e.glo 20) k_trimmed b_trimmed (l_cons (x_v (pv 7)) (l_cons x_int l_nil)))) (x_tup (l_cons (x_v (pv 5)) (l_cons (x_v (pv 8)) l_nil))) (nomark _)))))
  (s_one (s_ret (xo x_bl)))
  s_nil)
  (s_cons (s_if (t_cmp (op_neD hr.units) rd_neD (x_cmp (op_eqD hr.units) rd_eqD (x_sub (hu_of hr) (xd (x_call (F_best_agreed.mono (by decide)) hr rfl (e.glo 15) k_best_agreed b_best_agreed (l_cons (x_v (pv 7)) l_nil))) x_int) (x_v (pv 1)) (nomark _)) (x_cmp op_le rd_le (x_v (pv 5)) (x_v (pv 8)) (nomark _)) (nomark _))
  (s_one (s_ret (xo x_bl)))
  s_nil)
  (s_cons (s_if (t_cmp (op_eqD hr.units) rd_eqD (x_sub (hu_of hr) (x_v (pv 10)) x_int) x_str (nomark _))
  (s_cons (s_set (i := 4) nd rfl (by first | exact .inl rfl | exact .inr rfl) (xo (xd (x_callR (F__law_take.mono (by decide)) hr rfl (e.glo 39) k__law_take b__law_take (pv 0) (l_cons (x_v (pv 1)) l_nil)))))
  (s_cons (s_set (i := 13) nd rfl (by first | exact .inl rfl | exact .inr rfl) (xo (x_op op_addA rd_addA (xd (x_sl (x_vF (pv 2)) pa_no (pa_at (x_v (pv 4))))) (xd (x_sl (x_vF (pv 2)) (pa_at (x_op op_addA rd_addA (x_v (pv 4)) x_int)) pa_no)))))
  (s_cons (s_set (i := 14) nd rfl (by first | exact .inl rfl | exact .inr rfl) (xo (xd (cvCall co_tuple (pe_callTy call_tuple_of rfl (e.free 85) boot_tuple (l_cons (xd (x_lc (own := [("spot", 15), ("row", 12)]) rfl nd (cvEnum (pi_enum rfl (e.free 98) (l_cons (x_v (pv 7)) l_nil)) (pi_enT rfl (e.free 98) (l_cons (x_v (pv 7)) l_nil))) (blkOk_by (N := N__law_right) (sc := defScope s__law_right) (by decide +kernel)) (by decide) (onlyT (onlyCons onlyN (onlyCons onlyN onlyNil))) (fun _ _ _ _ _ => (g_tup rfl (gs_cons (g_name nd rfl (by first | exact .inl rfl | exact .inr rfl)) (gs_cons (g_name nd rfl (by first | exact .inl rfl | exact .inr rfl)) gs_nil)))) (fun _ _ _ _ _ => (ts_one (t_cmp (op_neD hr.units) rd_neD (x_v (pv 15)) (x_v (pv 4)) (nomark _)))) (fun _ _ _ _ _ => (x_v (pv 12))))) l_nil))))))
  (s_one (s_ret (xo (x_cmp (op_eqD hr.units) rd_eqD (x_cmp (op_eqD hr.units) rd_eqD (x_sub (hu_of hr) (xd (x_call (F_truth_spans.mono (by decide)) hr rfl (e.glo 17) k_truth_spans b_truth_spans (l_cons (x_v (pv 14)) (l_cons x_int l_nil)))) x_int) x_str (nomark _)) (x_cmp (op_eqD hr.units) rd_eqD (x_sub (hu_of hr) (xd (x_call (F_fitting.mono (by decide)) hr rfl (e.glo 35) k_fitting b_fitting (l_cons (xd (cvMake (pe_make (e.mkr 118) F_Log__init_ (hr.mono (by decide)) rfl (e.glo 56) b_Log__init_ .nil pass0 (l_cons (xd (x_call (F__law_text.mono (by decide)) hr rfl (e.glo 42) k__law_text b__law_text (l_cons (x_v (pv 13)) l_nil))) l_nil)))) l_nil))) x_int) x_str (nomark _)) (nomark _))))))))
  s_nil)
  (s_cons (s_if (t_w (w_or (t_cmp (op_neD hr.units) rd_neD (x_v (pv 10)) (x_tup (l_cons x_str (l_cons (x_tup (l_cons (x_tup (l_cons (x_v (pv 5)) (l_cons (x_v (pv 8)) l_nil))) l_nil)) l_nil))) (nomark _)) (w_or (t_cmp (op_neD hr.units) rd_neD (xd (x_call (F_agreed.mono (by decide)) hr rfl (e.glo 13) k_agreed b_agreed (l_cons (x_v (pv 7)) (l_cons (x_v (pv 1)) l_nil)))) (x_tup (l_cons (x_tup (l_cons (x_v (pv 5)) (l_cons (x_v (pv 8)) l_nil))) l_nil)) (nomark _)) (w_one (t_cmp (op_neD hr.units) rd_neD (xd (x_call (F_hull.mono (by decide)) hr rfl (e.glo 21) k_hull b_hull (l_cons (x_v (pv 7)) (l_cons x_int l_nil)))) (x_tup (l_cons (x_v (pv 5)) (l_cons (x_v (pv 8)) l_nil))) (nomark _))))))
  (s_one (s_ret (xo x_bl)))
  s_nil)
  (s_cons (s_if (t_w (w_or (t_not (t_val (xd (cvCall co_all (pe_callB (cr_all rfl) rfl (e.free 92) boot_all (l_cons (xd (x_lc (own := [("at", 4)]) rfl nd (cvRng1 (pi_range1 rfl (e.free 83) (l_cons (x_v (pv 1)) l_nil))) (blkOk_by (N := N__law_right) (sc := defScope s__law_right) (by decide +kernel)) (by decide) onlyN (fun _ _ _ _ _ => (g_name nd rfl (by first | exact .inl rfl | exact .inr rfl))) (fun _ _ _ _ _ => ts_nil) (fun _ _ _ _ _ => (x_cmp (op_eqD hr.units) rd_eqD (xd (x_call (F_span_of.mono (by decide)) hr rfl (e.glo 37) k_span_of b_span_of (l_cons (x_v (pv 6)) (l_cons (x_op op_addA rd_addA x_str (xd (cvCall co_str (pe_callTy cr_strA rfl (e.free 96) boot_str (l_cons (x_v (pv 4)) l_nil))))) l_nil)))) (x_tup (l_cons (x_v (pv 5)) (l_cons (x_v (pv 8)) l_nil))) (nomark _))))) l_nil)))))) (w_one (t_cmp (op_neD hr.units) rd_neD (xd (x_call (F_surely_wrong.mono (by decide)) hr rfl (e.glo 19) k_surely_wrong b_surely_wrong (l_cons (x_v (pv 7)) (l_cons x_int l_nil)))) (x_tup l_nil) (nomark _)))))
  (s_one (s_ret (xo x_bl)))
  s_nil)
  (s_cons (s_set (i := 16) nd rfl (by first | exact .inl rfl | exact .inr rfl) (xo (xd (x_call (F_times.mono (by decide)) hr rfl (e.glo 30) k_times b_times (l_cons (x_v (pv 6)) (l_cons (x_sub (hu_of hr) (x_v (pv 11)) x_int) l_nil))))))
  (s_cons (s_if (t_w (w_or (t_not (t_val (xd (cvCall co_all (pe_callB (cr_all rfl) rfl (e.free 92) boot_all (l_cons (xd (x_lc (own := [("time", 17)]) rfl nd (i_any (x_v (pv 16))) (blkOk_by (N := N__law_right) (sc := defScope s__law_right) (by decide +kernel)) (by decide) onlyN (fun _ _ _ _ _ => (g_name nd rfl (by first | exact .inl rfl | exact .inr rfl))) (fun _ _ _ _ _ => ts_nil) (fun _ _ _ _ _ => (x_cmp (op_eqD hr.units) rd_eqD (x_v (pv 17)) (x_sub (hu_of hr) (x_v (pv 16)) x_int) (nomark _))))) l_nil)))))) (w_one (t_cmp (op_neD hr.units) rd_neD (xd (x_call (F_have.mono (by decide)) hr rfl (e.glo 9) k_have b_have (l_cons (x_v (pv 7)) (l_cons (x_sub (hu_of hr) (x_v (pv 16)) x_int) l_nil)))) (x_tupRg rfl rfl (e.free 85) (r_1 rfl (e.free 83) (x_v (pv 1)))) (nomark _)))))
  (s_one (s_ret (xo x_bl)))
  s_nil)
  (s_cons (s_set (i := 18) nd rfl (by first | exact .inl rfl | exact .inr rfl) (xo (xd (x_call (F_without.mono (by decide)) hr rfl (e.glo 31) k_without b_without (l_cons (x_v (pv 6)) (l_cons (x_tup (l_cons (x_op op_addA rd_addA x_str (xd (cvCall co_str (pe_callTy cr_strA rfl (e.free 96) boot_str (l_cons (x_op op_sub rd_sub (x_v (pv 1)) x_int) l_nil))))) l_nil)) l_nil))))))
  (s_one (s_ret (xo (x_cmp (op_eqD hr.units) rd_eqD (xd (x_call (F_span_of.mono (by decide)) hr rfl (e.glo 37) k_span_of b_span_of (l_cons (x_v (pv 18)) (l_cons x_str l_nil)))) (xd (x_call (F_hull.mono (by decide)) hr rfl (e.glo 21) k_hull b_hull (l_cons (xd (x_sl (x_v (pv 7)) pa_no (pa_at (x_un un_neg ud_neg x_int)))) (l_cons x_int l_nil)))) (nomark _))))))))))))))))))))
theorem ok__law_right (e : En fa pr fn K mg) : ∃ fd, FnOk P w K mg base CX0 9 ((.glob "_law_right" : Dz.Loc).ad K) fd ["pot"] (spR K 1 m__law_right) ∧ Binds K fd ["pot"] [] ∧ PySem.W.keepIn K (.ref ((.glob "_law_right" : Dz.Loc).ad K)) = true := by
  obtain ⟨fd, F⟩ := e.def_ 67 (d := ⟨.glob "_law_right", "_law_right", "_law_right", s__law_right⟩)
  exact ⟨fd, okF__law_right e F, F.binds (fun _ _ _ _ _ _ us hl => match us, hl with | [_], _ => rfl), F.kp⟩
/-! ### _law_pot -/
abbrev N__law_pot : List Str := ["script", "place", "cell", "own", "small"]
abbrev s__law_pot : Stmt := top 84
theorem sc__law_pot : FnScope N__law_pot ["script", "place"] (defScope s__law_pot) := ⟨rfl, rfl, rfl, by decide +kernel, rfl, by decide +kernel, by decide +kernel⟩
theorem okF__law_pot (e : En fa pr fn K mg) {fd : FuncData} (F : Fun K "_law_pot" "_law_pot" s__law_pot ((.glob "_law_pot" : Dz.Loc).ad K) fd) : FnOk P w K mg base CX0 1 ((.glob "_law_pot" : Dz.Loc).ad K) fd ["script", "place"] (spP K 2 m__law_pot) := by
  refine fn_P (N := N__law_pot) (ps := ["script", "place"]) (g := g__law_pot) F sc__law_pot (by decide) (fun cdv A outer s H E hr => ?_)
  have nd : N__law_pot.Nodup := sc__law_pot.nd
  unfold g__law_pot
  exact (s_cons (s_set (i := 2) nd rfl (by first | exact .inl rfl | exact .inr rfl) (xo (x_if (t_cmp op_lt rd_lt (x_v (pv 1)) (xd (cvCall co_len (pe_callB call_len rfl (e.free 82) boot_len (l_cons (x_v (pv 0)) l_nil)))) (nomark _)) (x_sub (hu_of hr) (x_v (pv 0)) (x_v (pv 1))) (x_op op_addA rd_addA (x_op op_addA rd_addA (x_op op_mod rd_mod (xd (cvCall co_sum (pe_callB (cr_sum rfl) rfl (e.free 89) boot_sum (l_cons (xd (x_sl (x_v (pv 0)) pa_no (pa_at x_int))) l_nil)))) x_int) (x_op op_mul rd_mul x_int (x_v (pv 1)))) x_int))))
  (s_cons (s_set (i := 3) nd rfl (by first | exact .inl rfl | exact .inr rfl) (xo (x_op op_mul rd_mul (x_op op_mod rd_mod (xd (cvCall co_int (pe_callTy cr_intA rfl (e.free 95) boot_int (l_cons (xd (cvCall co_abs (pe_callB call_abs rfl (e.free 94) boot_abs (l_cons (x_v (pv 2)) l_nil)))) l_nil)))) (x_op op_powW rd_pow (x_op op_powW rd_pow x_int x_int) x_int)) (xd (cvCall co_int (pe_callTy cr_intA rfl (e.free 95) boot_int (l_cons (x_cmp op_ge rd_ge (xd (cvCall co_abs (pe_callB call_abs rfl (e.free 94) boot_abs (l_cons (x_v (pv 2)) l_nil)))) (x_op op_powW rd_pow x_int x_int) (nomark _)) l_nil)))))))
  (s_cons (s_set (i := 4) nd rfl (by first | exact .inl rfl | exact .inr rfl) (xo (x_op op_mod rd_mod (xd (cvCall co_int (pe_callTy cr_intA rfl (e.free 95) boot_int (l_cons (x_v (pv 2)) l_nil)))) x_int)))
  (s_one (s_ret (x_lst (l_cons (x_v (pv 3)) (l_cons (x_op op_mod rd_mod (xd (cvCall co_int (pe_callTy cr_intA rfl (e.free 95) boot_int (l_cons (x_op op_addA rd_addA (x_op op_addA rd_addA (x_op op_mul rd_mul (x_v (pv 4)) x_int) (x_op op_mul rd_mul (x_op op_mul rd_mul x_int (x_v (pv 1))) (x_v (pv 1)))) x_int) l_nil)))) x_int) (l_cons x_int l_nil)))))))))
theorem ok__law_pot (e : En fa pr fn K mg) : ∃ fd, FnOk P w K mg base CX0 1 ((.glob "_law_pot" : Dz.Loc).ad K) fd ["script", "place"] (spP K 2 m__law_pot) ∧ Binds K fd ["script", "place"] [] ∧ PySem.W.keepIn K (.ref ((.glob "_law_pot" : Dz.Loc).ad K)) = true := by
  obtain ⟨fd, F⟩ := e.def_ 62 (d := ⟨.glob "_law_pot", "_law_pot", "_law_pot", s__law_pot⟩)
  exact ⟨fd, okF__law_pot e F, F.binds (fun _ _ _ _ _ _ us hl => match us, hl with | [_, _], _ => rfl), F.kp⟩
/-! ### law -/
abbrev N_law : List Str := ["script", "place", "pot", "lap"]
abbrev s_law : Stmt := top 90
theorem sc_law : FnScope N_law ["script"] (defScope s_law) := ⟨rfl, rfl, rfl, by decide +kernel, rfl, by decide +kernel, by decide +kernel⟩
theorem okF_law (e : En fa pr fn K mg) {fd : FuncData} (F : Fun K "law" "law" s_law ((.glob "law" : Dz.Loc).ad K) fd) : FnOk P w K mg base CX0 10 ((.glob "law" : Dz.Loc).ad K) fd ["script"] (spP K 1 m_law) := by
  obtain ⟨fd__law_cells, F__law_cells, b__law_cells, k__law_cells⟩ := ok__law_cells (P := P) (w := w) (base := base) e
  obtain ⟨fd__law_right, F__law_right, b__law_right, k__law_right⟩ := ok__law_right (P := P) (w := w) (base := base) e
  obtain ⟨fd__law_pot, F__law_pot, b__law_pot, k__law_pot⟩ := ok__law_pot (P := P) (w := w) (base := base) e
  refine fn_P (N := N_law) (ps := ["script"]) (g := g_law) F sc_law (by decide) (fun cdv A outer s H E hr => ?_)
  have nd : N_law.Nodup := sc_law.nd
  unfold g_law
  exact (s_cons (s_for (vs := [1]) PassesOwn.never rfl (i_any (xd (x_call (F__law_cells.mono (by decide)) hr rfl (e.glo 41) k__law_cells b__law_cells (l_cons (x_v (pv 0)) (l_cons x_int l_nil))))) (g_name nd rfl (by first | exact .inl rfl | exact .inr rfl))
  (s_cons (s_set (i := 2) nd rfl (by first | exact .inl rfl | exact .inr rfl) (x_call (F__law_pot.mono (by decide)) hr rfl (e.glo 38) k__law_pot b__law_pot (l_cons (x_v (pv 0)) (l_cons (x_v (pv 1)) l_nil))))
  (s_one (s_if (t_not (t_val (xd (cvCall co_all (pe_callB (cr_all rfl) rfl (e.free 92) boot_all (l_cons (xd (x_lc (own := [("lap", 3)]) rfl nd (cvRng1 (pi_range1 rfl (e.free 83) (l_cons x_int l_nil))) (blkOk_by (N := N_law) (sc := defScope s_law) (by decide +kernel)) (by decide) onlyN (fun _ _ _ _ _ => (g_name nd rfl (by first | exact .inl rfl | exact .inr rfl))) (fun _ _ _ _ _ => ts_nil) (fun _ _ _ _ _ => (xd (x_callR (F__law_right.mono (by decide)) hr rfl (e.glo 43) k__law_right b__law_right (pv 2) l_nil))))) l_nil))))))
  (s_one (s_ret (xo x_bl)))
  s_nil))))
  (s_one (s_ret (xo x_bl))))
theorem ok_law (e : En fa pr fn K mg) : ∃ fd, FnOk P w K mg base CX0 10 ((.glob "law" : Dz.Loc).ad K) fd ["script"] (spP K 1 m_law) ∧ Binds K fd ["script"] [] ∧ PySem.W.keepIn K (.ref ((.glob "law" : Dz.Loc).ad K)) = true := by
  obtain ⟨fd, F⟩ := e.def_ 68 (d := ⟨.glob "law", "law", "law", s_law⟩)
  exact ⟨fd, okF_law e F, F.binds (fun _ _ _ _ _ _ us hl => match us, hl with | [_], _ => rfl), F.kp⟩
end
end Hk98
/-! text K98E -/
set_option Elab.async false
set_option linter.all false
set_option maxRecDepth 100000
set_option maxHeartbeats 0
namespace Hk98
open PySem PySem.Spec PyProof.Rows L2 Dl
/-- what is left to show: plain Lean -/
def Plain : Prop := ∀ ns : List Int, ns.length ≤ 63 → m_law [.fl (ns.map D.int)] = some (.sh (.bl true))
theorem sp_law (pl : Plain) {K : PySem.W.Frag} {H : Hp} {a : Addr} {ns : List Int} (hl : ns.length ≤ 63) (hS : SqL K H a (ns.map V.int)) : spP K 1 m_law [.ref a] H (fun v _ => v = .bl true) (fun _ _ _ => False) := by
  refine ⟨fun _ => False, [.fl (ns.map D.int)], .sh (.bl true), fun _ z => z.elim, .cons (.fl (hS.imp_left fun q => ⟨id, q⟩) (reps_ints ns)) .nil, rfl, pl ns hl, fun v H' M' G s mt ow _ => ?_⟩
  cases ow with
  | sh r => cases r; rfl
theorem facts (pl : Plain) {P : Program} {w : World} {K : PySem.W.Frag} {h : Heap} {mg : Str → Option Value} {f : Addr} (X : K.In h) (G : h.Ns mainGlobals mg) (hfa : mg ("law" : Str) = some (.ref f)) (c : Dz.Says fa pr fn K) :
    ∃ fd : FuncData, (∀ (s : Shared) (v : Value), BindsTo s fd ⟨[v], []⟩ [("script", v)]) ∧ ∀ base : Heap, K.In base → base.Ns mainGlobals mg → FnOk P w K mg base CX0 10 f fd ["script"] (spP K 1 m_law) := by
  have e : En fa pr fn K mg := ⟨⟨h, X, G, c⟩⟩
  obtain ⟨fd, F⟩ := e.def_ 68 (d := ⟨.glob "law", "law", "law", s_law⟩)
  have ef := hfa.symm.trans (e.glo 44)
  cases ef
  have b := F.binds (ps := ["script"]) fun _ _ _ _ _ _ us hl => match us, hl with | [_], _ => rfl
  refine ⟨fd, fun s v => ?_, fun base _ _ => ?_⟩
  · obtain ⟨oc, od, kV, doc, pm, an, cdv, ct, osl, rfl, lk, hcd⟩ := F.ex
    exact BindsTo.of_eq rfl
  · exact okF_law e F
end Hk98
open PySem PySem.W PySem.Calls PyProof.Rows
theorem holds_of (pl : Hk98.Plain) : PySem.Challenge.rw_surelyahead_k98_whole_clocks_as_sources.Holds := by
  w_on; o_law
  refine HandSHeadRun.head_any (r := OpenLaw.row PySem.Challenge.rw_surelyahead_k98_whole_clocks_as_sources) (q := view (OpenLaw.row PySem.Challenge.rw_surelyahead_k98_whole_clocks_as_sources).prog [90]) (H := Hk98.hk) (ob := Hk98.ob) (M := 20000) (loose := Hk98.loose) (d := HandSHeadRun.topDef (OpenLaw.row PySem.Challenge.rw_surelyahead_k98_whole_clocks_as_sources).prog 90) (kwd := []) Hk98.ob_eq
    (by kernel_rfl) (fun s => by kernel_rfl) Hk98.run (by kernel_rfl) (by kernel_rfl) (by kernel_rfl) (by rfl) (by first | assumption | decide +kernel) (by decide +kernel) ⟨rfl, rfl, rfl, rfl, rfl, by decide +kernel⟩ ?hw ?hc
  case hw => w_witness2
  case hc =>
    refine L2.walk_ofE (l := PySem.Challenge.rw_surelyahead_k98_whole_clocks_as_sources) (n := 63) (k := 10) (x := "script") (CX := L2.CX0) rfl (by decide) (by kernel_rfl) ⟨rfl, by decide, by decide⟩ ?F (fun _ _ _ _ z => z)
    intro w mg fa h Y G hmg0
    obtain ⟨K, KX, c⟩ := Y
    have hmg : mg ("law" : PySem.Str) = some (.ref fa) := by
      have e : (HandSHeadRun.topDef (OpenLaw.row PySem.Challenge.rw_surelyahead_k98_whole_clocks_as_sources).prog 90).name = ("law" : PySem.Str) := by kernel_rfl
      rw [← e]
      exact hmg0
    obtain ⟨fd, hb, hF⟩ := Hk98.facts pl (P := (PySem.Challenge.rw_surelyahead_k98_whole_clocks_as_sources).prog) (w := w) KX G hmg c
    exact ⟨K, fd, Dl.spP K 1 Hk98.m_law, KX, hb, fun H a ns hl _ hS => Hk98.sp_law pl hl hS, hF⟩
/-! text Q27 -/
set_option linter.all false
set_option maxRecDepth 100000
set_option maxHeartbeats 1000000
namespace Hk98
open PySem L2 Dl Mi
abbrev laS (ns : List Int) (x y z : W) : List W := [W.w false (.sh (.fl (ns.map D.int))), x, y, z]
theorem laps (rt : Right) (ns : List Int) (x : W) : ∀ (k : Nat) (a b c : Int) (ds : List D), ds.length = k → Pot a b c → c + 100 * k < 90000 →
    ∃ a' c', lcR [3] (bN 3) yesB (frE (callR 1 m__law_right 2 nilL)) ds (laS ns x (W.w false (potO a b c)) W.un) = some (ds.map fun _ => .bl true, laS ns x (W.w false (potO a' b c')) W.un) ∧ Pot a' b c' ∧ c' ≤ c + 100 * k
  | 0, a, b, c, ds, h, p, hc => by
    have := List.eq_nil_of_length_eq_zero h
    subst this
    exact ⟨a, c, rfl, p, by omega⟩
  | k + 1, a, b, c, ds, h, p, hc => by
    cases ds with
    | nil => cases h
    | cons d ds =>
      obtain ⟨a1, c1, e1, a0, h1, h2⟩ := rt a b c p (by omega)
      have p1 : Pot a1 b c1 := ⟨a0, p.b0, p.b1, by have := p.c0; omega, by omega⟩
      obtain ⟨a2, c2, e2, p2, h3⟩ := laps rt ns x k a1 b c1 ds (by simpa using h) p1 (by omega)
      refine ⟨a2, c2, ?_, p2, by omega⟩
      have e3 : frE (callR 1 m__law_right 2 nilL) (laS ns x (W.w false (potO a b c)) (W.w false (.sh d))) = some (.bl true, laS ns x (W.w false (potO a1 b c1)) (W.w false (.sh d))) := by
        simp [callR, has, e1]
      unfold lcR
      show (match frE (callR 1 m__law_right 2 nilL) (laS ns x (W.w false (potO a b c)) (W.w false (.sh d))) with | none => none | some (y, ρ3) => Option.map (fun p : List D × List W => (y :: p.1, p.2)) (lcR [3] (bN 3) yesB (frE (callR 1 m__law_right 2 nilL)) ds (wipeW ρ3 [3]))) = _
      rw [e3]
      dsimp only
      show Option.map _ (lcR [3] (bN 3) yesB (frE (callR 1 m__law_right 2 nilL)) ds (laS ns x (W.w false (potO a1 b c1)) W.un)) = _
      rw [e2]
      rfl
theorem p_place (rt : Right) (ns : List Int) (h : ns.length ≤ 63) (y z : W) (i : Nat) (hi : i ≤ 1) (hy : nb [W.w false (.sh (.fl (ns.map D.int))), W.w false (.sh (.int (i : Nat))), y, z] 2 = true) : ∃ y2, nb [W.w false (.sh (.fl (ns.map D.int))), W.w false (.sh (.int (i : Nat))), y2, z] 2 = true ∧
    seqS (asgS 2 (callP 2 m__law_pot (consL (vE 0) (consL (vE 1) nilL))))
      (ifS (notB (bE (frE (callB (sh1 allD) (consL (frE (lcE [3] (itL rng1D (consL (cE (.int 5)) nilL)) (bN 3) yesB (frE (callR 1 m__law_right 2 nilL)))) nilL)))))
      (retS (shE (cE (.bl false)))) skipS) (laS ns (W.w false (.sh (.int (i : Nat)))) y z) = some (.nx (laS ns (W.w false (.sh (.int (i : Nat)))) y2 z)) := by
  obtain ⟨a, b, e1, p⟩ := p_pot ns h (i : Nat) (by omega) (by omega)
  obtain ⟨a', c', e2, p2, _⟩ := laps rt ns (W.w false (.sh (.int (i : Nat)))) 5 a b 0 (rangeD 0 5) rfl p (by decide)
  refine ⟨W.w false (potO a' b c'), rfl, ?_⟩
  have e3 : asgS 2 (callP 2 m__law_pot (consL (vE 0) (consL (vE 1) nilL))) (laS ns (W.w false (.sh (.int (i : Nat)))) y z) = some (.nx (laS ns (W.w false (.sh (.int (i : Nat)))) (W.w false (potO a b 0)) z)) := by
    simp only [ev_asg, ev_callP, ev_cons, ev_v, ev_nil, List.getElem?_cons_succ, List.getElem?_cons_zero, Option.map_some]
    show (match Option.map (fun o => (o, _)) (m__law_pot [.fl (ns.map D.int), .int (i : Nat)]) with | some (x, ρ1) => if nb ρ1 2 = true then some (Res.nx (ρ1.set 2 (W.w false x))) else none | none => none) = _
    rw [e1]
    simp only [Option.map_some]
    rw [if_pos hy]
    rfl
  have e4 : lcE [3] (itL rng1D (consL (cE (.int 5)) nilL)) (bN 3) yesB (frE (callR 1 m__law_right 2 nilL)) (laS ns (W.w false (.sh (.int (i : Nat)))) (W.w false (potO a b 0)) z) = some (.ol ((rangeD 0 5).map fun _ => .bl true), laS ns (W.w false (.sh (.int (i : Nat)))) (W.w false (potO a' b c')) z) := by
    show Option.map (fun p => (O.ol p.1, backW p.2 _ [3])) (lcR [3] (bN 3) yesB (frE (callR 1 m__law_right 2 nilL)) (rangeD 0 5) (laS ns (W.w false (.sh (.int (i : Nat)))) (W.w false (potO a b 0)) W.un)) = _
    rw [e2]
    rfl
  have e5 : allD (.lst ((rangeD 0 5).map fun _ => D.bl true)) = some (.bl true) := all_true _
  simp only [ev_seq, e3, ev_if, ev_notB, ev_bE, ev_fr, ev_callB, ev_cons, e4, Option.map_some, ev_nil, frz_ol, ev_sh1, e5, frz_sh, Bool.not_true, ev_skip]
theorem plain_of (rt : Right) : Plain := by
  intro ns h
  have key : ∀ (k : Nat) (is : List Nat) (x y : W), (∀ i ∈ is, i ≤ 1) → is.length = k → (∀ i : Nat, nb [W.w false (.sh (.fl (ns.map D.int))), W.w false (.sh (.int (i : Nat))), y, W.un] 2 = true) →
      ∃ x2 y2, forR (bN 1) (seqS (asgS 2 (callP 2 m__law_pot (consL (vE 0) (consL (vE 1) nilL))))
      (ifS (notB (bE (frE (callB (sh1 allD) (consL (frE (lcE [3] (itL rng1D (consL (cE (.int 5)) nilL)) (bN 3) yesB (frE (callR 1 m__law_right 2 nilL)))) nilL)))))
      (retS (shE (cE (.bl false)))) skipS)) (is.map fun i => .int (i : Nat)) (laS ns x y W.un) = some (.nx (laS ns x2 y2 W.un)) := by
    intro k
    induction k with
    | zero =>
      intro is x y _ hl _
      have := List.eq_nil_of_length_eq_zero hl
      subst this
      exact ⟨x, y, rfl⟩
    | succ k ih =>
      intro is x y hi hl hy
      cases is with
      | nil => cases hl
      | cons i is =>
        obtain ⟨y2, hy2, e⟩ := p_place rt ns h y W.un i (hi i List.mem_cons_self) (hy i)
        obtain ⟨x3, y3, e3⟩ := ih is (W.w false (.sh (.int (i : Nat)))) y2 (fun j hj => hi j (List.mem_cons_of_mem _ hj)) (by simpa using hl) (fun j => hy2)
        refine ⟨x3, y3, ?_⟩
        rw [List.map_cons]
        unfold forR
        show (match seqS _ _ (laS ns (W.w false (.sh (.int (i : Nat)))) y W.un) with | none => none | some (.nx ρ2) => _ | some (.ct ρ2) => _ | some (.bk ρ2) => _ | some (.rt o ρ2) => _) = _
        rw [e]
        exact e3
  obtain ⟨x2, y2, e⟩ := key _ (List.range (max 1 (min 2 ns.length))) W.un W.un (fun i hi => by have := List.mem_range.mp hi; omega) rfl (fun _ => rfl)
  have c := p_cells ns h
  unfold m_law fnP g_law
  have e2 : forS (itE seqS' (frE (callP 2 m__law_cells (consL (vE 0) (consL (cE (.int 2)) nilL))))) (bN 1) (seqS (asgS 2 (callP 2 m__law_pot (consL (vE 0) (consL (vE 1) nilL))))
      (ifS (notB (bE (frE (callB (sh1 allD) (consL (frE (lcE [3] (itL rng1D (consL (cE (.int 5)) nilL)) (bN 3) yesB (frE (callR 1 m__law_right 2 nilL)))) nilL)))))
      (retS (shE (cE (.bl false)))) skipS)) (laS ns W.un W.un W.un) = some (.nx (laS ns x2 y2 W.un)) := by
    simp [c, seqS', seqD]
    exact e
  show (match (match forS _ _ _ (laS ns W.un W.un W.un) with | some (.nx ρ1) => retS (shE (cE (.bl true))) ρ1 | r => r) with | some (.rt o ρ) => some o | some (.nx ρ) => some (O.sh D.non) | x => none) = _
  rw [e2]
  rfl
end Hk98
set_option Elab.async false
set_option maxRecDepth 100000 in
set_option maxHeartbeats 0 in
theorem PySem.Challenge.cw_surelyahead_k98_whole_clocks_as_sources_holds : PySem.Challenge.rw_surelyahead_k98_whole_clocks_as_sources.Holds :=
  holds_of (Hk98.plain_of Hk98.right)
