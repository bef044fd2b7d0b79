import PyProof.Rows.All
import Wide.All
import OpenK.AllK
import Wide.FinOn
import KE.KStateDown
import HandS.Base
import HandS.Call
import HandS.Ends
import HandS.More
import HandS.Defaults
import HandS.Words
import HandS.WordsExc
import HandS.WordsList
import HandS.Comp
import HandS.Dict
import HandS.WordsDict
import HandS.Iter
import HandS.Text
import HandS.Conv
import HandS.Zip
import HandS.Deep
import HandS.Walk
import HandS.Head0
import HandS.Head1
import HandS.Head2
import HandS.HeadEnd
import HandS.HeadHook1
import HandS.HeadHook2
import PySem.Challenge.RW_afterdeeds_k95_errors_of_what_is_asked
import PyProof.EqAt
import PyProof.EqKinds
import PyProof.TupleCall
import KE.KIsAll
import HandS.List
import HandS.Exc
import HandS.ExcOwn
import HandS.ExcInit
import HandS.ExcIs
import HandS.IsInst
import HandS.MakeKw
import HandS.ExcValue
import HandS.ExcCtx
import HandS.Hot
import HandS.HotCalls
set_option Elab.async false
set_option linter.all false
set_option maxRecDepth 100000
set_option maxHeartbeats 4000000
namespace K95
open PySem PySem.Spec PyProof.Rows L2
def top (i : Nat) : Stmt := PySem.Challenge.pw_afterdeeds_k95_errors_of_what_is_asked.main.body.getD i (.Pass ⟨0, 0, 0, 0⟩)
abbrev s_law_start : Stmt := top 49
abbrev s_law_pick : Stmt := top 50
abbrev s_law_between : Stmt := top 51
abbrev s_law_same : Stmt := top 52
abbrev s_law_kinds_of : Stmt := top 53
abbrev s_law_others : Stmt := top 54
abbrev s_law_is_other : Stmt := top 55
abbrev s_law_made_a : Stmt := top 56
abbrev s_law_made_b : Stmt := top 57
abbrev s_law_made_at : Stmt := top 58
abbrev s_law_object : Stmt := top 59
abbrev s_law_very : Stmt := top 60
abbrev s_law_caught : Stmt := top 61
abbrev s_law : Stmt := top 62
abbrev c_BadOther : Stmt := inClass (top 2) 0
abbrev c_BadFormulas : Stmt := inClass (top 3) 0
abbrev c_BadNumbers : Stmt := inClass (top 4) 0
abbrev c_BadOthers : Stmt := inClass (top 5) 0
abbrev c_BadPremises : Stmt := inClass (top 6) 0
abbrev c_BadBefore : Stmt := inClass (top 7) 0
abbrev c_BadAfter : Stmt := inClass (top 8) 0
abbrev c_BadOutline : Stmt := inClass (top 9) 0
abbrev c_BadAnswer : Stmt := inClass (top 10) 0
abbrev c_BadWholeText : Stmt := inClass (top 11) 0
abbrev c_BadRounds : Stmt := inClass (top 12) 0
abbrev c_HasTest : Stmt := inClass (top 13) 0
abbrev c_BadChanges : Stmt := inClass (top 15) 0
abbrev c_BadPrices : Stmt := inClass (top 16) 0
abbrev c_BadUnsure : Stmt := inClass (top 17) 0
abbrev c_BadPlaces : Stmt := inClass (top 18) 0
abbrev c_BadAsks : Stmt := inClass (top 19) 0
abbrev c_NotApart : Stmt := inClass (top 20) 0
abbrev c_BadStrategy : Stmt := inClass (top 21) 0
abbrev c_BadEdit : Stmt := inClass (top 22) 0
abbrev c_BadDesk : Stmt := inClass (top 23) 0
abbrev c_BadDeskText : Stmt := inClass (top 24) 0
abbrev c_BadFormula : Stmt := inClass (top 28) 0
abbrev c_BadProgram : Stmt := inClass (top 29) 0
abbrev c_BadPlace : Stmt := inClass (top 30) 0
abbrev c_BadForm : Stmt := inClass (top 31) 0
abbrev c_BadModel : Stmt := inClass (top 32) 0
abbrev c_BadNumber : Stmt := inClass (top 33) 0
abbrev c_BadFormulaText : Stmt := inClass (top 34) 0
abbrev c_BadProgramText : Stmt := inClass (top 35) 0
abbrev c_BadModelText : Stmt := inClass (top 36) 0
abbrev c_BadRun : Stmt := inClass (top 37) 0
abbrev c_BadMany : Stmt := inClass (top 38) 0
abbrev c_BadRest : Stmt := inClass (top 39) 0
abbrev c_BadTold : Stmt := inClass (top 40) 0
abbrev c_BadOrder : Stmt := inClass (top 41) 0
abbrev c_BadWord : Stmt := inClass (top 42) 0
abbrev c_BadWords : Stmt := inClass (top 43) 0
abbrev c_BadDeeds : Stmt := inClass (top 44) 0
abbrev c_BadDepth : Stmt := inClass (top 45) 0
abbrev c_BadSome : Stmt := inClass (top 46) 0
abbrev c_BadLot : Stmt := inClass (top 47) 0
abbrev FnP (K : PySem.W.Frag) (x : Str) (st : Stmt) (f : Addr) (fd : FuncData) : Prop := FunD K x x (defArgs st) (defBody st) (defScope st) [] [] f fd
def allN : List Str := (["DeedError", "BadOther", "BadFormulas", "BadNumbers", "BadOthers", "BadPremises", "BadBefore", "BadAfter", "BadOutline", "BadAnswer", "BadWholeText", "BadRounds", "HasTest", "BadChanges", "BadPrices", "BadUnsure", "BadPlaces", "BadAsks", "NotApart", "BadStrategy"] : List Str) ++ (["BadEdit", "BadDesk", "BadDeskText", "NothingToUndo", "NothingToRedo", "BadFormula", "BadProgram", "BadPlace", "BadForm", "BadModel", "BadNumber", "BadFormulaText", "BadProgramText", "BadModelText", "BadRun", "BadMany", "BadRest", "BadTold", "BadOrder", "BadWord"] : List Str) ++ (["BadWords", "BadDeeds", "BadDepth", "BadSome", "BadLot"] : List Str)
def iniN : List (Str × Str) := ([("BadOther", "other"), ("BadFormulas", "index"), ("BadNumbers", "index"), ("BadOthers", "index"), ("BadPremises", "index"), ("BadBefore", "before"), ("BadAfter", "after"), ("BadOutline", "outline"), ("BadAnswer", "answer"), ("BadWholeText", "line"), ("BadRounds", "rounds"), ("HasTest", "program"), ("BadChanges", "index"), ("BadPrices", "prices"), ("BadUnsure", "index"), ("BadPlaces", "index"), ("BadAsks", "index"), ("NotApart", "index"), ("BadStrategy", "strategy"), ("BadEdit", "edit")] : List (Str × Str)) ++ ([("BadDesk", "desk"), ("BadDeskText", "line"), ("BadFormula", "formula"), ("BadProgram", "program"), ("BadPlace", "place"), ("BadForm", "form"), ("BadModel", "model"), ("BadNumber", "number"), ("BadFormulaText", "number"), ("BadProgramText", "number"), ("BadModelText", "line"), ("BadRun", "run"), ("BadMany", "many"), ("BadRest", "index"), ("BadTold", "told"), ("BadOrder", "index"), ("BadWord", "word"), ("BadWords", "index"), ("BadDeeds", "index"), ("BadDepth", "depth")] : List (Str × Str)) ++ ([("BadSome", "index"), ("BadLot", "index")] : List (Str × Str))
def bareN : List Str := ["DeedError", "NothingToUndo", "NothingToRedo"]
abbrev CA (K : PySem.W.Frag) (x : Str) : Addr := He.ga K x

/-! ### the head: what the run of the top leaves, read by a Hook of our own -/
def eqA (a b : Option (Option Value)) : Bool := decide (a = b)
theorem eqA_ok {a b : Option (Option Value)} (h : eqA a b = true) : a = b := of_decide_eq_true h
def tailOf (K : PySem.W.Frag) (x : Str) : List Value := if x = "DeedError" then He.veBase else .ref (CA K "DeedError") :: He.veBase
def objB (K : PySem.W.Frag) (x : Str) : Bool := match K.lookup (CA K x) with
  | some ⟨.type "type", _, .cls cd, sl⟩ => (match cd.mro, sl.toList with
    | .ref C' :: bm, [_, _, _, _, some (.builtin n), _] => C' == CA K x && (n == "ValueError.__new__" && (!cd.hasDel && (cd.hasDict && (cd.name == x && bm == tailOf K x))))
    | _, _ => false)
  | _ => false
def clsB (K : PySem.W.Frag) (x : Str) : Bool :=
  eqA (PySem.W.nsIn K mainGlobals x) (some (some (.ref (CA K x)))) && (objB K x && (eqA (PySem.W.findIn K (.ref (CA K x)) "__setattr__") (some (some (.builtin "object.__setattr__"))) &&
  (PySem.W.keepIn K (.ref (CA K x)) && (eqA (PySem.W.findIn K (.ref (CA K x)) "__getattribute__") (some (some (.builtin "BaseException.__getattribute__"))) && (eqA (PySem.W.findIn K (.ref (CA K x)) "__getattr__") (some none) &&
  eqA (PySem.W.findIn K (.ref (CA K x)) "__class__") (some (some (.builtin "object.__class__"))))))))
def iniB (K : PySem.W.Frag) (p : Str × Str) : Bool :=
  eqA (PySem.W.findIn K (.ref (CA K p.1)) p.2) (some none) && (eqA (PySem.W.findIn K (.ref (CA K p.1)) "__init__") (some (some (.ref (He.ma K (CA K p.1) "__init__")))) && decide (PySem.W.typeIn K (.ref (He.ma K (CA K p.1) "__init__")) = some (.type "function")))
def freeN : List Str := ["isinstance", "list", "tuple", "dict", "len", "all", "zip", "bool", "int", "str", "abs", "max", "range", "ValueError", "KeyError", "IndexError", "TypeError"]
def fnN : List Str := ["_law_start", "_law_pick", "_law_between", "_law_same", "_law_kinds_of", "_law_others", "_law_is_other", "_law_made_a", "_law_made_b", "_law_made_at", "_law_object", "_law_very", "_law_caught", "law"]
def chkK (K : PySem.W.Frag) : Bool :=
  allN.all (clsB K) && (iniN.all (iniB K) && (bareN.all (fun x => PySem.W.excIn K (CA K x) He.veBase "ValueError.__new__") && (freeN.all (fun x => eqA (PySem.W.nsIn K mainGlobals x) (some none)) && (fnN.all (fun x => eqA (PySem.W.nsIn K mainGlobals x) (some (some (.ref (He.ga K x))))) &&
  (eqA (PySem.W.specialIn K (.builtin "object.__class__") "__get__") (some (some (.builtin "getset_descriptor.__get__"))) && decide (PySem.W.takesIn K (.builtin "object.__class__") = some true))))))
def refsC (g : Addr → Option Obj) (a : Addr) : List Addr := match g a with
  | some o => He.refsD o
  | none => []
def as1 (g : Addr → Option Obj) : List Addr := refsC g mainGlobals
def as2 (g : Addr → Option Obj) : List Addr := (as1 g).flatMap (refsC g)
def as3 (g : Addr → Option Obj) : List Addr := (as2 g).flatMap (refsC g)
def as4 (g : Addr → Option Obj) : List Addr := (as3 g).flatMap (refsC g)
/-- what the module's names reach in four steps, not thinned -/
def asX (g : Addr → Option Obj) : List Addr := mainGlobals :: (as1 g ++ (as2 g ++ (as3 g ++ as4 g)))
abbrev AlX : Type := Bool × List He.FnW
def obsX (fn : List He.DefD) (K : PySem.W.Frag) : AlX := (chkK K && fn.all fun d => d.ok K, fn.map fun d => He.fnW K d.at_)
def valX (fn : List He.DefD) : AlX := (true, fn.map He.DefD.val)
def obsXG (fn : List He.DefD) (g : Addr → Option Obj) : AlX := obsX fn (He.frG g (asX g))
def hookX (fn : List He.DefD) : PySem.W.Hook where
  α := AlX
  obs := fun s => obsXG fn s.heap.get?
  val := fun _ => valX fn
  says := fun _ h => ∃ K : PySem.W.Frag, K.In h ∧ obsX fn K = valX fn
  of := fun _ _ e => ⟨_, He.frG_in, e⟩
  keeps := fun _ _ _ ⟨K, hK, c⟩ k => ⟨K, PySem.W.Frag.In.keeps hK k, c⟩
theorem obsXG_eq {fn : List He.DefD} {g : Addr → Option Obj} {s : Shared} (h : ∀ a, g a = s.heap.get? a) : obsXG fn g = (hookX fn).obs s := by
  have e : g = s.heap.get? := funext h
  rw [e] <;> rfl
theorem saysX_def {fn : List He.DefD} {K : PySem.W.Frag} (c : obsX fn K = valX fn) (i : Nat) {d : He.DefD} (h : fn[i]? = some d := by rfl) : ∃ fd, FunD K d.name d.qual d.params d.body d.scope (d.dvs K) (d.kws K) (He.fAd K d.at_) fd := by
  have c1 : (chkK K && fn.all fun d => d.ok K) = true := congrArg (fun z : AlX => z.1) c
  have c2 := (Bool.and_eq_true_iff.mp c1).2
  have e : fn.map (fun d => He.fnW K d.at_) = fn.map He.DefD.val := congrArg (fun z : AlX => z.2) c
  have e2 : (fn.map fun d => He.fnW K d.at_)[i]? = (fn.map He.DefD.val)[i]? := by rw [e]
  rw [List.getElem?_map, List.getElem?_map, h] at e2
  exact He.DefD.funD (Option.some.inj e2) (List.all_eq_true.mp c2 d (List.mem_of_getElem? h))
def fnD : List He.DefD := ([⟨("_law_start", none), "_law_start", "_law_start", defArgs s_law_start, defBody s_law_start, defScope s_law_start, [], []⟩, ⟨("_law_pick", none), "_law_pick", "_law_pick", defArgs s_law_pick, defBody s_law_pick, defScope s_law_pick, [], []⟩, ⟨("_law_between", none), "_law_between", "_law_between", defArgs s_law_between, defBody s_law_between, defScope s_law_between, [], []⟩, ⟨("_law_same", none), "_law_same", "_law_same", defArgs s_law_same, defBody s_law_same, defScope s_law_same, [], []⟩, ⟨("_law_kinds_of", none), "_law_kinds_of", "_law_kinds_of", defArgs s_law_kinds_of, defBody s_law_kinds_of, defScope s_law_kinds_of, [], []⟩, ⟨("_law_others", none), "_law_others", "_law_others", defArgs s_law_others, defBody s_law_others, defScope s_law_others, [], []⟩, ⟨("_law_is_other", none), "_law_is_other", "_law_is_other", defArgs s_law_is_other, defBody s_law_is_other, defScope s_law_is_other, [], []⟩, ⟨("_law_made_a", none), "_law_made_a", "_law_made_a", defArgs s_law_made_a, defBody s_law_made_a, defScope s_law_made_a, [], []⟩, ⟨("_law_made_b", none), "_law_made_b", "_law_made_b", defArgs s_law_made_b, defBody s_law_made_b, defScope s_law_made_b, [], []⟩, ⟨("_law_made_at", none), "_law_made_at", "_law_made_at", defArgs s_law_made_at, defBody s_law_made_at, defScope s_law_made_at, [], []⟩, ⟨("_law_object", none), "_law_object", "_law_object", defArgs s_law_object, defBody s_law_object, defScope s_law_object, [], []⟩, ⟨("_law_very", none), "_law_very", "_law_very", defArgs s_law_very, defBody s_law_very, defScope s_law_very, [], []⟩, ⟨("_law_caught", none), "_law_caught", "_law_caught", defArgs s_law_caught, defBody s_law_caught, defScope s_law_caught, [], []⟩, ⟨("law", none), "law", "law", defArgs s_law, defBody s_law, defScope s_law, [], []⟩, ⟨("BadOther", some "__init__"), "__init__", "BadOther.__init__", defArgs c_BadOther, defBody c_BadOther, defScope c_BadOther, [], []⟩] : List He.DefD) ++ ([⟨("BadFormulas", some "__init__"), "__init__", "BadFormulas.__init__", defArgs c_BadFormulas, defBody c_BadFormulas, defScope c_BadFormulas, [], []⟩, ⟨("BadNumbers", some "__init__"), "__init__", "BadNumbers.__init__", defArgs c_BadNumbers, defBody c_BadNumbers, defScope c_BadNumbers, [], []⟩, ⟨("BadOthers", some "__init__"), "__init__", "BadOthers.__init__", defArgs c_BadOthers, defBody c_BadOthers, defScope c_BadOthers, [], []⟩, ⟨("BadPremises", some "__init__"), "__init__", "BadPremises.__init__", defArgs c_BadPremises, defBody c_BadPremises, defScope c_BadPremises, [], []⟩, ⟨("BadBefore", some "__init__"), "__init__", "BadBefore.__init__", defArgs c_BadBefore, defBody c_BadBefore, defScope c_BadBefore, [], []⟩, ⟨("BadAfter", some "__init__"), "__init__", "BadAfter.__init__", defArgs c_BadAfter, defBody c_BadAfter, defScope c_BadAfter, [], []⟩, ⟨("BadOutline", some "__init__"), "__init__", "BadOutline.__init__", defArgs c_BadOutline, defBody c_BadOutline, defScope c_BadOutline, [], []⟩, ⟨("BadAnswer", some "__init__"), "__init__", "BadAnswer.__init__", defArgs c_BadAnswer, defBody c_BadAnswer, defScope c_BadAnswer, [], []⟩, ⟨("BadWholeText", some "__init__"), "__init__", "BadWholeText.__init__", defArgs c_BadWholeText, defBody c_BadWholeText, defScope c_BadWholeText, [], []⟩, ⟨("BadRounds", some "__init__"), "__init__", "BadRounds.__init__", defArgs c_BadRounds, defBody c_BadRounds, defScope c_BadRounds, [], []⟩, ⟨("HasTest", some "__init__"), "__init__", "HasTest.__init__", defArgs c_HasTest, defBody c_HasTest, defScope c_HasTest, [], []⟩, ⟨("BadChanges", some "__init__"), "__init__", "BadChanges.__init__", defArgs c_BadChanges, defBody c_BadChanges, defScope c_BadChanges, [], []⟩, ⟨("BadPrices", some "__init__"), "__init__", "BadPrices.__init__", defArgs c_BadPrices, defBody c_BadPrices, defScope c_BadPrices, [], []⟩, ⟨("BadUnsure", some "__init__"), "__init__", "BadUnsure.__init__", defArgs c_BadUnsure, defBody c_BadUnsure, defScope c_BadUnsure, [], []⟩, ⟨("BadPlaces", some "__init__"), "__init__", "BadPlaces.__init__", defArgs c_BadPlaces, defBody c_BadPlaces, defScope c_BadPlaces, [], []⟩] : List He.DefD) ++ ([⟨("BadAsks", some "__init__"), "__init__", "BadAsks.__init__", defArgs c_BadAsks, defBody c_BadAsks, defScope c_BadAsks, [], []⟩, ⟨("NotApart", some "__init__"), "__init__", "NotApart.__init__", defArgs c_NotApart, defBody c_NotApart, defScope c_NotApart, [], []⟩, ⟨("BadStrategy", some "__init__"), "__init__", "BadStrategy.__init__", defArgs c_BadStrategy, defBody c_BadStrategy, defScope c_BadStrategy, [], []⟩, ⟨("BadEdit", some "__init__"), "__init__", "BadEdit.__init__", defArgs c_BadEdit, defBody c_BadEdit, defScope c_BadEdit, [], []⟩, ⟨("BadDesk", some "__init__"), "__init__", "BadDesk.__init__", defArgs c_BadDesk, defBody c_BadDesk, defScope c_BadDesk, [], []⟩, ⟨("BadDeskText", some "__init__"), "__init__", "BadDeskText.__init__", defArgs c_BadDeskText, defBody c_BadDeskText, defScope c_BadDeskText, [], []⟩, ⟨("BadFormula", some "__init__"), "__init__", "BadFormula.__init__", defArgs c_BadFormula, defBody c_BadFormula, defScope c_BadFormula, [], []⟩, ⟨("BadProgram", some "__init__"), "__init__", "BadProgram.__init__", defArgs c_BadProgram, defBody c_BadProgram, defScope c_BadProgram, [], []⟩, ⟨("BadPlace", some "__init__"), "__init__", "BadPlace.__init__", defArgs c_BadPlace, defBody c_BadPlace, defScope c_BadPlace, [], []⟩, ⟨("BadForm", some "__init__"), "__init__", "BadForm.__init__", defArgs c_BadForm, defBody c_BadForm, defScope c_BadForm, [], []⟩, ⟨("BadModel", some "__init__"), "__init__", "BadModel.__init__", defArgs c_BadModel, defBody c_BadModel, defScope c_BadModel, [], []⟩, ⟨("BadNumber", some "__init__"), "__init__", "BadNumber.__init__", defArgs c_BadNumber, defBody c_BadNumber, defScope c_BadNumber, [], []⟩, ⟨("BadFormulaText", some "__init__"), "__init__", "BadFormulaText.__init__", defArgs c_BadFormulaText, defBody c_BadFormulaText, defScope c_BadFormulaText, [], []⟩, ⟨("BadProgramText", some "__init__"), "__init__", "BadProgramText.__init__", defArgs c_BadProgramText, defBody c_BadProgramText, defScope c_BadProgramText, [], []⟩, ⟨("BadModelText", some "__init__"), "__init__", "BadModelText.__init__", defArgs c_BadModelText, defBody c_BadModelText, defScope c_BadModelText, [], []⟩] : List He.DefD) ++ ([⟨("BadRun", some "__init__"), "__init__", "BadRun.__init__", defArgs c_BadRun, defBody c_BadRun, defScope c_BadRun, [], []⟩, ⟨("BadMany", some "__init__"), "__init__", "BadMany.__init__", defArgs c_BadMany, defBody c_BadMany, defScope c_BadMany, [], []⟩, ⟨("BadRest", some "__init__"), "__init__", "BadRest.__init__", defArgs c_BadRest, defBody c_BadRest, defScope c_BadRest, [], []⟩, ⟨("BadTold", some "__init__"), "__init__", "BadTold.__init__", defArgs c_BadTold, defBody c_BadTold, defScope c_BadTold, [], []⟩, ⟨("BadOrder", some "__init__"), "__init__", "BadOrder.__init__", defArgs c_BadOrder, defBody c_BadOrder, defScope c_BadOrder, [], []⟩, ⟨("BadWord", some "__init__"), "__init__", "BadWord.__init__", defArgs c_BadWord, defBody c_BadWord, defScope c_BadWord, [], []⟩, ⟨("BadWords", some "__init__"), "__init__", "BadWords.__init__", defArgs c_BadWords, defBody c_BadWords, defScope c_BadWords, [], []⟩, ⟨("BadDeeds", some "__init__"), "__init__", "BadDeeds.__init__", defArgs c_BadDeeds, defBody c_BadDeeds, defScope c_BadDeeds, [], []⟩, ⟨("BadDepth", some "__init__"), "__init__", "BadDepth.__init__", defArgs c_BadDepth, defBody c_BadDepth, defScope c_BadDepth, [], []⟩, ⟨("BadSome", some "__init__"), "__init__", "BadSome.__init__", defArgs c_BadSome, defBody c_BadSome, defScope c_BadSome, [], []⟩, ⟨("BadLot", some "__init__"), "__init__", "BadLot.__init__", defArgs c_BadLot, defBody c_BadLot, defScope c_BadLot, [], []⟩] : List He.DefD)
abbrev R : PySem.W.OpenRow := PySem.W.OpenLaw.row PySem.Challenge.rw_afterdeeds_k95_errors_of_what_is_asked
abbrev hk : PySem.W.Hook := hookX fnD
def ob (s : PySem.W.SharedT) : AlX := obsXG fnD (HandSHeadRun.getT s)
theorem ob_eq (s : PySem.W.SharedT) : ob s = hk.obs s.abs := obsXG_eq (HandSHeadRun.getT_eq s)
def names : List PySem.Str := (["DeedError", "BadOther", "BadFormulas", "BadNumbers", "BadOthers", "BadPremises", "BadBefore", "BadAfter", "BadOutline", "BadAnswer", "BadWholeText", "BadRounds", "HasTest", "BadChanges", "BadPrices", "BadUnsure", "BadPlaces", "BadAsks", "NotApart", "BadStrategy"] : List PySem.Str) ++ (["BadEdit", "BadDesk", "BadDeskText", "NothingToUndo", "NothingToRedo", "BadFormula", "BadProgram", "BadPlace", "BadForm", "BadModel", "BadNumber", "BadFormulaText", "BadProgramText", "BadModelText", "BadRun", "BadMany", "BadRest", "BadTold", "BadOrder", "BadWord"] : List PySem.Str) ++ (["BadWords", "BadDeeds", "BadDepth", "BadSome", "BadLot", "_law_start", "_law_pick", "_law_between", "_law_same", "_law_kinds_of", "_law_others", "_law_is_other", "_law_made_a", "_law_made_b", "_law_made_at", "_law_object", "_law_very", "_law_caught"] : List PySem.Str)

theorem run (w : World) : HandSHeadRun.RunEq R (PySem.W.view R.prog [62]) hk ob 12000 names w := by
  intro os
  kernel_rfl
end K95

set_option Elab.async false
set_option linter.all false
set_option maxRecDepth 100000
set_option maxHeartbeats 4000000
namespace PySem
namespace EVX
open PySem.W PySem.Calls PyProof.Rows PySem.HandSPX
section
variable {M : Model} {prog : Program} {w : World} {A : Around} {E : Value → Shared → Prop} {R : Result → Shared → Prop} {h : Heap} {g : Array GenState} {d : Drawn} {t : Nat} {os : OsState}
variable {nm q : Str} {C N : Addr} {bs bm bB : List Value} {hdct : Bool} {sn : List Str} {sub : List Value} {ab : Bool} {col : Option Bool} {dd : Option Addr} {k0 k1 k2 k3 k5 : Option Value} {B nI iI : String}
/-- the class as it stands, by a short name -/
abbrev CObj (nm q : Str) (C N : Addr) (bs bm : List Value) (hdct : Bool) (sn : List Str) (sub : List Value) (ab : Bool) (col : Option Bool) (dd : Option Addr) (k0 k1 k2 k3 k5 : Option Value) (nI : String) : Obj :=
  excClassObj nm q C N bs bm hdct sn sub ab col dd k0 k1 k2 k3 k5 nI
abbrev Cov (bm bB : List Value) : Prop := ∀ X : String, bm.contains (.type X) = bB.contains (.type X)
theorem chk_new (F : ExcBaseFacts B nI iI bB) (hT : Cov bm bB) {rest : List Value} {kw : List (Str × Value)} {Q : Unit → Shared → Prop} (hC : h.get? C = some (CObj nm q C N bs bm hdct sn sub ab col dd k0 k1 k2 k3 k5 nI)) (z : Q () ⟨h, g, d, t, os⟩) :
    wpAny M A (checkBuiltinCall nI ⟨.ref C :: rest, kw⟩) Q E ⟨h, g, d, t, os⟩ := by
  have hc : (Value.ref C :: bm).contains (.type B) = true := by rw [List.contains_cons, hT, F.hasB, Bool.or_true]
  have hs := F.noStar
  simp only [checkBuiltinCall, F.newKind, F.newSplit, F.newRow]
  repeat (first | refine wpAny_loadPart_at hC ?_ | (refine wpAny_isSubtype_exc hC ?_; rw [hc]) | refine wpAny_staticBase_exc hC ?_ | refine wpAny_madeBy_exc hC ?_ | simp only [bne_self_eq_false, Bool.false_eq_true, if_false] | wp_step)
  exact z
theorem mk_new (F : ExcBaseFacts B nI iI bB) (hT : Cov bm bB) {rest : List Value} {kw : List (Str × Value)} (hC : h.get? C = some (CObj nm q C N bs bm hdct sn sub ab col dd k0 k1 k2 k3 k5 nI))
    (z : R (.ok (.ret (.ref (h.objs.size + 1)))) ⟨(h.push (W.kdv_tup rest)).push (excO C h.objs.size), g, d, t, os⟩) (hl : rest.length ≤ sizeLine) :
    codeAny (model prog w) A (.builtin nI ⟨.ref C :: rest, kw⟩) R ⟨h, g, d, t, os⟩ := by
  have he := F.ends
  have h1 : (Value.ref C :: bm).contains (.type B) = true := by rw [List.contains_cons, hT, F.hasB, Bool.or_true]
  have h2 : (Value.ref C :: bm).contains (.type "AttributeError") = false := by rw [List.contains_cons, hT, F.noAttr] <;> rfl
  have h3 : (Value.ref C :: bm).contains (.type "NameError") = false := by rw [List.contains_cons, hT, F.noName] <;> rfl
  refine codeAny_builtinAt F.entry ?_
  unfold Builtin.«BaseException.__new__»
  refine wpAt_bind ?_
  show wpAt _ _ _ (stack >>= _) _ _ _
  refine wpAt_bind (wpAt_stack fun p below => wpAt_of_wpAny ?_)
  wp_walk
  refine wpAt_of_wpAny ?_
  rw [F.owner]
  repeat (first | with_reducible refine wpAny_madeHere_exc F.canon hC ?_ | with_reducible refine wpAny_loadPart_at hC ?_ | (with_reducible refine wpAny_isSubtype_exc hC ?_; first | rw [h1] | rw [h2] | rw [h3]) | wp_step)
  show R _ _
  rw [Heap.size_push]
  exact z
theorem chk_tc {rest : List Value} {kw : List (Str × Value)} {Q : Unit → Shared → Prop} (hC : h.get? C = some (CObj nm q C N bs bm hdct sn sub ab col dd k0 k1 k2 k3 k5 nI)) (z : Q () ⟨h, g, d, t, os⟩) :
    wpAny M A (checkBuiltinCall "type.__call__" ⟨.ref C :: rest, kw⟩) Q E ⟨h, g, d, t, os⟩ := by
  have f3 := tc_sub
  have hTy : (⟨h, g, d, t, os⟩ : Shared).TypeIs (.ref C) "type" := ⟨_, hC, rfl⟩
  simp only [checkBuiltinCall, tc_kind, tc_split]
  repeat (any_goals (first | assumption | with_reducible refine wpAny_loadPart_at hC ?_ | with_reducible refine wpAny_onRaise ?_ | with_reducible refine wpAny_map ?_ | wp_step))
theorem tc_run (F : ExcBaseFacts B nI iI bB) (hT : Cov bm bB) {rest : List Value} {kw : List (Str × Value)} {fI : Addr} {Q : Fin → Shared → Prop} (hC : h.get? C = some (CObj nm q C N bs bm hdct sn sub ab col dd k0 k1 k2 k3 k5 nI))
    (hi : W.Looks (model prog w) h (typeLookup (.ref C) "__init__") (some (.ref fI))) (hb : ∀ self, W.Looks (model prog w) h (bindSpecial (.ref fI) self) (.ref fI, [self])) (hl : rest.length ≤ sizeLine)
    (z : codeAny (model prog w) A (.call (.ref fI) ⟨.ref (h.objs.size + 1) :: rest, kw⟩) (fun r s' => match r with | .ok (.ret v) => v = .none ∧ Q (.done (.ret (.ref (h.objs.size + 1)))) s' | .ok _ => False | .error e => E e s')
      ⟨(h.push (W.kdv_tup rest)).push (excO C h.objs.size), g, d, t, os⟩) : wpAny (model prog w) A (Builtin.«type.__call__» ⟨.ref C :: rest, kw⟩) Q E ⟨h, g, d, t, os⟩ := by
  repeat (first | with_reducible refine wpAny_loadPart_at hC ?_ | with_reducible refine wpAny_madeBy_exc hC ?_ | wp_step)
  refine codeAny_call_builtin_code (Code.quiet_builtin _ F.quiet) (chk_new F hT hC ?_)
  refine mk_new F hT hC ?_ hl
  show wpAny _ _ _ _ _ _
  have kk : ∀ b o, h.get? b = some o → ((h.push (W.kdv_tup rest)).push (excO C h.objs.size)).get? b = some o := fun b o e => Heap.get?_push_of_some _ (Heap.get?_push_of_some _ e)
  have hC1 := kk _ _ hC
  have hg : ((h.push (W.kdv_tup rest)).push (excO C h.objs.size)).get? (h.objs.size + 1) = some (excO C h.objs.size) := by heap_get
  have hcC : (Value.ref C :: bm).contains (.ref C) = true := by simp
  have i1 := hi.keeps kk
  have b1 := (hb (.ref (h.objs.size + 1))).keeps kk
  unfold isInstance
  repeat (first | with_reducible refine wpAny_loadPart_at hg ?_ | (with_reducible refine wpAny_isSubtype_exc hC1 ?_; rw [hcC]) | wp_step)
  show wpAny _ _ (typeLookup (.ref C) _) _ _ _
  refine i1.at ?_
  refine wpAny_holding (wpAny_bind (b1.at ?_))
  refine wpAny_bind (wpAny_call (codeAny_mono z fun r s' z => ?_))
  rcases r with e | (v | _ | _ | _) <;> first | exact z | exact z.elim | skip
  obtain ⟨rfl, z⟩ := z
  first
    | exact wpAny_pure (wpAny_pure z)
    | (wp_walk; exact z)
/-- an own exception class called, with keywords: made by its base's __new__, then the own __init__ runs -/
theorem make_kw (F : ExcBaseFacts B nI iI bB) (hT : Cov bm bB) {rest : List Value} {kw : List (Str × Value)} {fI : Addr} (hC : h.get? C = some (CObj nm q C N bs bm hdct sn sub ab col dd k0 k1 k2 k3 k5 nI))
    (hi : W.Looks (model prog w) h (typeLookup (.ref C) "__init__") (some (.ref fI))) (hb : ∀ self, W.Looks (model prog w) h (bindSpecial (.ref fI) self) (.ref fI, [self])) (hl : rest.length ≤ sizeLine)
    (z : codeAny (model prog w) (A.under (.builtin "type.__call__" ⟨.ref C :: rest, kw⟩)) (.call (.ref fI) ⟨.ref (h.objs.size + 1) :: rest, kw⟩) (W.InitBack (h.objs.size + 1) R) ⟨(h.push (W.kdv_tup rest)).push (excO C h.objs.size), g, d, t, os⟩) :
    codeAny (model prog w) A (.call (.ref C) ⟨rest, kw⟩) R ⟨h, g, d, t, os⟩ := by
  have f1 := tc_lookup
  have f2 := tc_bind (.ref C)
  have hTy : (⟨h, g, d, t, os⟩ : Shared).TypeIs (.ref C) "type" := ⟨_, hC, rfl⟩
  refine codeAny_of_tree ?_
  show wpAny _ _ (callAny (.ref C) _) _ _ _
  repeat (any_goals (first | assumption | with_reducible refine wpAny_loadPart_at hC ?_ | wp_step))
  refine ⟨rfl, ?_⟩
  refine codeAny_call_builtin_at (Code.quiet_builtin _ (by decide +kernel)) entry_typeCall (chk_tc hC (tc_run F hT hC hi hb hl ?_))
  refine codeAny_mono z fun r s' z => ?_
  rcases r with e | (v | _ | _ | _) <;> exact z
/-- an own exception class without __init__ of its own, called with nothing -/
theorem new_bare {x D : Addr} {ox : Obj} {od : Option Obj} {K : Frag} (hc : (clsIn K D).isSome = true) (ha : findIn K (.ref D) "__class__" = some (some (.builtin "object.__class__")))
    (hn : specialIn K (.builtin "object.__class__") "__get__" = some (some (.builtin "getset_descriptor.__get__"))) (htk : takesIn K (.builtin "object.__class__") = some true) :
    findObj K D od "__class__" = some (.bind (.builtin "getset_descriptor.__get__") (.builtin "object.__class__")) := by
  obtain ⟨cd, hc⟩ := Option.isSome_iff_exists.mp hc
  simp only [findObj, hc, ha, Option.bind_some, hn, htk]
end
/-! ### isinstance of an exception that stands in the heap, with or without its dict -/
section
variable {prog : Program} {w : World} {A : Around} {E : Value → Shared → Prop} {s : Shared} {K : Frag} {x D : Addr} {ox : Obj} {od : Option Obj}
theorem cls_attr {Q : Option Value → Shared → Prop} (T : L2.ExcC K D) (X : K.In s.heap) (I : W.InstAt s.heap x ox D od) (z : Q (some (.ref D)) { s with toks := s.toks + 1 }) : wpAny (model prog w) A (getAttr? (.ref x) "__class__") Q E s := by
  have hf : findObj K D od "__class__" = some (.bind (.builtin "getset_descriptor.__get__") (.builtin "object.__class__")) := new_bare (x := x) (ox := ox) (by obtain ⟨cd, hc, _⟩ := any_some T.hd; rw [hc]; rfl) T.ha T.hn T.ht
  obtain ⟨hp, g, d, t, os⟩ := s
  have A0 := I.type (M := model prog w)
  have A1 := looks_findIn (M := model prog w) X T.hg
  have A2 := looks_findIn (M := model prog w) X T.hk
  have A3 := looks_find (M := model prog w) X I hf
  have sub : Looks (model prog w) hp (isInstance (.ref x) (.type "BaseException")) true := A0.andThen (looks_subIn X T.hs)
  have n2 : (Value.builtin "BaseException.__getattribute__" == Value.builtin "object.__getattribute__") = false := by decide +kernel
  have n1 : (onTheHeap (Value.ref D) && Value.builtin "BaseException.__getattribute__" == Value.builtin "object.__getattribute__") = false := by rw [n2]; rfl
  unfold getAttr? getAttrBy? getAttrBy
  refine wpAny_bind (wpAny_mkText (wpAny_bind (wpAny_attempt (wpAny_holding (wpAny_bind (A0.at (wpAny_bind (A1.at ?_))))))))
  show wpAny _ _ (if (onTheHeap (Value.ref D) && Value.builtin "BaseException.__getattribute__" == Value.builtin "object.__getattribute__") = true then _ else _) _ _ _
  rw [n1, if_neg Bool.false_ne_true]
  unfold getAttrByItsOwn hookBefore
  refine wpAny_bind ?_
  rw [if_pos (show onTheHeap (Value.ref D) = true from rfl)]
  refine A2.at ?_
  refine wpAny_bind (wpAny_attempt (wpAny_holding ?_))
  unfold callGetattribute
  rw [show (false && onTheHeap (Value.builtin "BaseException.__getattribute__")) = false from rfl, if_neg Bool.false_ne_true]
  unfold boundAndCalled
  rw [PySem.F.excAttr_ValueError.ga.bind (.ref x)]
  refine wpAny_bind (wpAny_pure ?_)
  show wpAny _ _ (call (.builtin "BaseException.__getattribute__") [.ref x, .str "__class__" t]) _ _ _
  refine wpAny_call (codeAny_call_builtin PySem.F.excAttr_ValueError.ga.plain PySem.F.entry_bexc_ga ?_)
  refine @check_slot (model prog w) _ _ ⟨hp, g, d, t + 1, os⟩ "BaseException.__getattribute__" "BaseException" "__getattribute__" (.ref x) [.str "__class__" t] [] _ (by decide +kernel) (by decide +kernel) sub (PySem.F.args_bexc_ga (.ref x) (.str "__class__" t)) ?_
  unfold Builtin.«object.__getattribute__»
  refine wpAny_bind (wpAny_of_eq (a := ((Value.ref x : Value), [Value.str "__class__" t])) (by first | rfl | (simp only [slotArgs]; rfl)) ?_)
  refine wpAny_bind (wpAny_pure (wpAny_bind (A0.at (wpAny_bind (A3.at ?_)))))
  show wpAny _ _ (holding [Value.builtin "object.__class__"] (call (.builtin "getset_descriptor.__get__") [.builtin "object.__class__", .ref x, .ref D]) >>= ret) _ _ _
  refine wpAny_bind (wpAny_holding (wpAny_call (class_get (s := ⟨hp, g, d, t + 1, os⟩) (ox := ox) (od := od) X I T.hm ?_)))
  refine wpAny_pure ?_
  show wpAny _ _ (handedOut (.ref D)) _ _ _
  rw [handedOut_of (v := .ref D) rfl]
  first
    | exact wpAny_pure (wpAny_pure z)
    | exact wpAny_pure z
    | exact wpAny_pure (wpAny_bind (wpAny_pure (wpAny_pure z)))
theorem kit_exc (T : L2.ExcC K D) : KitX K (.ref x) (.ref D) (fun h => ∃ ox od, W.InstAt h x ox D od) where
  ty := fun _ _ _ ⟨_, _, I⟩ => I.type
  it := fun _ _ X _ => by
    obtain ⟨cd, hc, _⟩ := any_some T.hd
    unfold clsIn at hc
    split at hc
    · rename_i c' d' cd' sl' ho
      intro A' Q' E' s' k q
      unfold isType loadHead
      exact wpAny_bind (wpAny_loadPart (k _ _ (X _ _ ho)) (wpAny_pure q))
    · cases hc
  ne := fun h tp dd its n sl X ht => by
    obtain ⟨cd, hc, _⟩ := any_some T.hd
    refine Bool.eq_false_iff.mpr fun q => ?_
    have e : D = tp := Value.ref.inj (beq_iff_eq.mp q)
    subst e
    unfold clsIn at hc
    split at hc
    · rename_i c' d' cd' sl' ho
      have z := (X _ _ ho).symm.trans ht
      cases z
    · cases hc
  ca := fun X ⟨_, _, I⟩ k => cls_attr T X I k
end
end EVX
end PySem

set_option Elab.async false
set_option linter.all false
set_option maxRecDepth 100000
set_option maxHeartbeats 4000000
namespace EV
open PySem PySem.Spec PyProof.Rows L2
/-- an exception of the class at C stands at a, its dict at d -/
def ExI (H : Hp) (a C : Addr) : Prop := H a = some (exo a C none) ∨ ∃ dx fs, H a = some (exo a C (some dx)) ∧ H dx = some (exd dx fs)
/-- .. with just one field -/
def Ex1 (H : Hp) (a C : Addr) (f : Str) (v : V) : Prop := ∃ dx, H a = some (exo a C (some dx)) ∧ H dx = some (exd dx [(f, v)])
theorem Ex1.ex {H : Hp} {a C : Addr} {f : Str} {v : V} (h : Ex1 H a C f v) : ExI H a C := let ⟨dx, h1, h2⟩ := h; .inr ⟨dx, _, h1, h2⟩
theorem ExI.same {H H' : Hp} {a C : Addr} (s : Same H H') (h : ExI H a C) : ExI H' a C := by
  rcases h with h | ⟨dx, fs, h1, h2⟩
  · exact .inl (s _ _ h)
  · exact .inr ⟨dx, fs, s _ _ h1, s _ _ h2⟩
theorem Ex1.same {H H' : Hp} {a C : Addr} {f : Str} {v : V} (s : Same H H') (h : Ex1 H a C f v) : Ex1 H' a C f v := let ⟨dx, h1, h2⟩ := h; ⟨dx, s _ _ h1, s _ _ h2⟩
/-- __init__(self, v): self.f = v -/
def spIni (C : Addr) (f : Str) : Sp := fun vs H Q _ => ∃ a v, vs = [.ref a, v] ∧ H a = some (exo a C none) ∧ ∀ dx, H dx = none → dx ≠ a → Q .non (upd (upd H dx (exd dx [(f, v)])) a (exo a C (some dx)))
/-- what the written part says of a class of our own over ValueError -/
structure ECls (K : PySem.W.Frag) (C : Addr) : Prop where
  oex : OexC K C
  exc : ExcC K C
/-- .. with an __init__ of its own for one field f -/
structure EIni (P : Program) (w : World) (K : PySem.W.Frag) (mg : Str → Option Value) (base : Heap) (x : Str) (C : Addr) (f : Str) : Prop extends ECls K C where
  g : mg x = some (.ref C)
  no : PySem.W.findIn K (.ref C) f = some none
  ini : ∃ fI fd, PySem.W.findIn K (.ref C) "__init__" = some (some (.ref fI)) ∧ PySem.W.typeIn K (.ref fI) = some (.type "function") ∧ FnOk P w K mg base CX0 1 fI fd ["self", f] (spIni C f) ∧
    Binds K fd ["self", f] [] ∧ KBn K fd ["self", f] 1 [f] (fun us ws => us ++ ws) (fun vs zs => vs ++ zs)
def hMk (H : Hp) (a dx C : Addr) (f : Str) (v : V) : Hp := upd (upd H dx (exd dx [(f, v)])) a (exo a C (some dx))
def tMkV (C : Addr) (f : Str) (te : TE) : TE := fun σ H Q => te σ H fun v H1 => ∀ a dx, H1 a = none → H1 dx = none → dx ≠ a → Q (.ref a) (hMk H1 a dx C f v)
theorem hMk_same {H : Hp} {a dx C : Addr} {f : Str} {v : V} (ha : H a = none) (hd : H dx = none) : Same H (hMk H a dx C f v) := fun b o e => by
  unfold hMk
  rw [upd_ne (ne_of_none e ha), upd_ne (ne_of_none e hd)]
  exact e
theorem hMk_ex {H : Hp} {a dx C : Addr} {f : Str} {v : V} (hn : dx ≠ a) : Ex1 (hMk H a dx C f v) a C f v := ⟨dx, upd_same, by unfold hMk; rw [upd_ne hn, upd_same]⟩
section
variable {X : Cx} {x f : Str} {C : Addr} {e : Expr} {te : TE} {p pos kpos : Pos}
theorem run_mk {pins : List (Addr × Obj)} {σ : L2.St} {H1 : Hp} {s1 : Shared} {Q : VK} {us ws : List Value} {v : V} {ks : List Str} (T : EIni X.prog X.w X.K X.mg X.base x C f) (hr : Room 2 X.A) (I1 : Inv X pins σ H1 s1)
    (hk : (us = [] ∧ ks = [f] ∧ Vals [v] ws) ∨ (ks = [] ∧ ws = [] ∧ Vals [v] us)) (q1 : ∀ a dx, H1 a = none → H1 dx = none → dx ≠ a → Q (.ref a) (hMk H1 a dx C f v)) :
    wpAny (model X.prog X.w) X.A (call (.ref C) us (ks.zip ws)) (EP X pins σ Q) X.xe s1 := by
  obtain ⟨fI, fd, iC, tI, F1, hb, kb⟩ := T.ini
  obtain ⟨nm, q, N, bs, bm, sn, sub, ab, col, dd, k0, k1, k2, k3, k5, hC, hbm⟩ := T.oex.cls
  obtain ⟨hp, g, dr, tk, os⟩ := s1
  have hsz : hp.objs.size ≤ hp.objs.size + 1 := Nat.le_succ _
  have hn : H1 (hp.objs.size + 1) = none := I1.hok.fresh hsz
  have kk : ∀ b o, hp.get? b = some o → ((hp.push (PySem.W.kdv_tup us)).push (PySem.HandSPX.excO C hp.objs.size)).get? b = some o := fun b o e => Heap.get?_push_of_some _ (Heap.get?_push_of_some _ e)
  have hget : ((hp.push (PySem.W.kdv_tup us)).push (PySem.HandSPX.excO C hp.objs.size)).get? (hp.objs.size + 1) = some (PySem.HandSPX.excO C hp.objs.size) := by heap_get
  have I2 : Inv X pins σ (upd H1 (hp.objs.size + 1) (exo (hp.objs.size + 1) C none)) ⟨(hp.push (PySem.W.kdv_tup us)).push (PySem.HandSPX.excO C hp.objs.size), g, dr, tk, os⟩ :=
    I1.laid (t' := tk) (a := hp.objs.size + 1) (o := exo (hp.objs.size + 1) C none) (h' := (hp.push (PySem.W.kdv_tup us)).push (PySem.HandSPX.excO C hp.objs.size)) kk hsz (exo_ok hget)
  have hsp : spIni C f [.ref (hp.objs.size + 1), v] (upd H1 (hp.objs.size + 1) (exo (hp.objs.size + 1) C none)) (fun y H2 => y = .non ∧ Q (.ref (hp.objs.size + 1)) H2) (fun _ _ _ => False) := by
    refine ⟨_, _, rfl, upd_same, fun dx hd hne => ⟨rfl, ?_⟩⟩
    have hd1 : H1 dx = none := by rw [upd_ne hne] at hd; exact hd
    have e1 : upd (upd (upd H1 (hp.objs.size + 1) (exo (hp.objs.size + 1) C none)) dx (exd dx [(f, v)])) (hp.objs.size + 1) (exo (hp.objs.size + 1) C (some dx)) = hMk H1 (hp.objs.size + 1) dx C f v := by
      funext b
      unfold hMk
      by_cases hb : b = hp.objs.size + 1
      · subst hb; rw [upd_same, upd_same]
      · rw [upd_ne hb, upd_ne hb]
        by_cases hb2 : b = dx
        · subst hb2; rw [upd_same, upd_same]
        · rw [upd_ne hb2, upd_ne hb2, upd_ne hb]
    rw [e1]
    exact q1 _ dx hn hd1 hne
  have hus : us.length ≤ sizeLine := by
    rcases hk with ⟨rfl, _, _⟩ | ⟨_, _, r⟩
    · exact Nat.zero_le _
    · rw [← Paired.length r, sizeLine_eq]; exact (by decide : 1 ≤ 16777216)
  obtain ⟨zs, hbd, hzv⟩ : ∃ zs : List Value, BindsTo ⟨(hp.push (PySem.W.kdv_tup us)).push (PySem.HandSPX.excO C hp.objs.size), g, dr, tk, os⟩ fd ⟨Value.ref (hp.objs.size + 1) :: us, ks.zip ws⟩ ((["self", f] : List Str).zip zs) ∧ Vals [.ref (hp.objs.size + 1), v] zs := by
    rcases hk with ⟨rfl, rfl, r⟩ | ⟨rfl, rfl, r⟩
    · refine ⟨Value.ref (hp.objs.size + 1) :: ws, kb.to _ [Value.ref (hp.objs.size + 1)] ws I2.kIn rfl ?_, .cons rfl r⟩
      exact (Paired.length r).symm
    · have z := hb ⟨(hp.push (PySem.W.kdv_tup us)).push (PySem.HandSPX.excO C hp.objs.size), g, dr, tk, os⟩ (Value.ref (hp.objs.size + 1) :: us) I2.kIn (by simp [← Paired.length r])
      rw [List.append_nil] at z
      exact ⟨Value.ref (hp.objs.size + 1) :: us, z, .cons rfl r⟩
  refine wpAny_call (PySem.EVX.make_kw F.excBase_ValueError (fun Y => PySem.HandSPX.refsVE_contains Y bm hbm) (I1.kIn _ _ hC) (PySem.W.looks_findIn I1.kIn iC) (fun self => PySem.W.bind_fn I1.kIn self tI) hus
    (codeAny_mono (F1.run _ X.stack _ _ ⟨Value.ref (hp.objs.size + 1) :: us, ks.zip ws⟩ zs _ _ (fun _ _ _ => False) ((hr.make C us (ks.zip ws))) (I2.env0.make C us (ks.zip ws)) hbd hzv hsp) fun r s' hq' => ?_))
  cases r with
  | error er => exact (hq' : False).elim
  | ok fl =>
    cases fl with
    | ret u =>
      obtain ⟨y, H2, os2, bare2, un2, hok2, rv, ev, q2⟩ := hq'
      subst ev
      obtain ⟨y', H3, I3, rv3, e3⟩ := I2.after (u := u) (s' := s') (Q := fun y H3 => y = .non ∧ Q (.ref (hp.objs.size + 1)) H3) ⟨.non, H2, os2, bare2, un2, hok2, rv, rfl, q2⟩
      exact ⟨rv, ⟨V.ref (hp.objs.size + 1), H3, I3, rfl, e3.2⟩⟩
    | next => exact False.elim hq'
    | brk => exact False.elim hq'
    | cont => exact False.elim hq'
/-- C(e) -/
theorem pe_mkP (T : EIni X.prog X.w X.K X.mg X.base x C f) (hr : Room 2 X.A) (hg : Gl X x) (he : PE X e te) (hdb : (x == ("__debug__" : Str)) = false := by decide) (hs : starEach [e] X.env = (false, eval e X.env) :: starEach [] X.env := by rfl)
    (hpl : (backTo pos (starEach [] X.env)).any (·.1) = false := by rfl) : PE X (.Call (.Name x p) [e] [] pos) (tMkV C f te) := by
  refine ⟨fun pins s σ H Q I h => ?_⟩
  refine wpAny_Call_Name_kw (ld_glob I hg T.g ?_ hdb)
  refine PySem.W.callWith_K (h₀ := X.base) I.ok.mod.kin T.oex.kC ?_ hs hpl
  rw [hs]
  show wpAny _ _ (spliced ((false, eval e X.env) :: backTo pos (starEach [] X.env))) _ _ s
  refine Calls.spliced_cons (thn (he.run pins s σ H _ I h) fun u s1 ⟨v, H1, I1, r1, q1⟩ => ?_)
  refine Calls.spliced_nil ⟨I1.kIn, ?_⟩
  exact run_mk (us := [u]) (ws := []) (ks := []) T hr I1 (.inr ⟨rfl, rfl, .cons r1 .nil⟩) q1
/-- C(f=e) -/
theorem pe_mkK (T : EIni X.prog X.w X.K X.mg X.base x C f) (hr : Room 2 X.A) (hg : Gl X x) (he : PE X e te) (hdb : (x == ("__debug__" : Str)) = false := by decide) : PE X (.Call (.Name x p) [] [⟨some f, e, kpos⟩] pos) (tMkV C f te) := by
  refine ⟨fun pins s σ H Q I h => ?_⟩
  refine wpAny_Call_Name_kw (ld_glob I hg T.g ?_ hdb)
  refine PySem.W.callWith_KW0 (h₀ := X.base) I.ok.mod.kin T.oex.kC (by rfl) ?_ (by rfl)
  have hk : PK X [⟨some f, e, kpos⟩] (tCons te tNil) := pk_cons he pk_nil
  refine thn (hk.run pos pins s σ H (fun zs H2 => match zs with | [v] => ∀ a dx, H2 a = none → H2 dx = none → dx ≠ a → Q (.ref a) (hMk H2 a dx C f v) | _ => False) I h) fun ws s2 ⟨zs, H2, I2, rz, q2⟩ => ⟨I2.kIn, ?_⟩
  match zs, rz, q2 with
  | [v], rz, q2 => exact run_mk (us := []) (ws := ws) (ks := [f]) T hr I2 (.inl ⟨rfl, rfl, rz⟩) q2
  | [], _, q2 => exact q2.elim
  | _ :: _ :: _, _, q2 => exact q2.elim
/-- C(), C without an __init__ of its own -/
theorem pe_mk0 {bmB : List Value} {B newId initId : String} (F : ExcBaseFacts B newId initId bmB) (q : PySem.W.excIn X.K C bmB newId = true) (gC : X.mg x = some (.ref C)) (kC : PySem.W.keepIn X.K (.ref C) = true) (hg : Gl X x)
    (hdb : (x == ("__debug__" : Str)) = false := by decide) : PE X (.Call (.Name x p) [] [] pos) (fun _ H Q => ∀ a, H a = none → Q (.ref a) (upd H a (exo a C none))) := by
  refine ⟨fun pins s σ H Q I h => ?_⟩
  refine wpAny_Call_Name_kw (ld_glob I hg gC ?_ hdb)
  refine PySem.W.callWith_K0 I.kIn kC ?_
  show wpAny _ _ (call (.ref C) []) _ _ _
  obtain ⟨bm, N, nm, qn, bs, hdct, sn, sub, ab, col, dd, k0, k1, k2, k3, k5, mN, hC, hN, hni, T⟩ := exc_obj I.kIn q
  refine wpAny_call_exc_subT F T hC hN hni (fun h' a hm => ?_) (Nat.zero_le _)
  have hn : H a = none := I.hok.gone hm.new
  obtain ⟨t, ht, _, _⟩ := hm.there
  exact ⟨.ref a, upd H a (exo a C none), I.laidN hm.keeps hm.new hn (exo_ok ht), rfl, h a hn⟩
/-- what stands at such an address, for isinstance and fields -/
theorem inst_at {pins : List (Addr × Obj)} {σ : L2.St} {H : Hp} {s : Shared} {a : Addr} (I : Inv X pins σ H s) (h : ExI H a C) : ∃ ox od, PySem.W.InstAt s.heap a ox C od := by
  rcases h with h | ⟨dx, fs, h, hd⟩
  · obtain ⟨t1, e⟩ := exo_at I.hok h
    exact ⟨_, none, e, rfl, rfl, trivial⟩
  · obtain ⟨t1, e⟩ := exo_at I.hok h
    obtain ⟨mA, hn, _⟩ := exd_at I.hok hd
    obtain ⟨od, ho, _⟩ := lookIn_ns hn
    exact ⟨_, some od, e, rfl, rfl, ho⟩
/-- isinstance(e, c), e such an exception -/
def rIsV (K : PySem.W.Frag) : List V → Hp → VK → Prop := fun xs H Q => ∃ (a C : Addr) (c : V) (u : Value) (b : Bool), xs = [.ref a, c] ∧ ECls K C ∧ ExI H a C ∧ ClsV c u ∧ PySem.W.kitOne K (.ref C) u = some b ∧ Q (.bl b) H
def rIsVT (K : PySem.W.Frag) : List V → Hp → VK → Prop := fun xs H Q => ∃ (a C tp : Addr) (cs : List V) (us : List Value) (b : Bool), xs = [.ref a, .ref tp] ∧ H tp = some (.tup cs) ∧ ECls K C ∧ ExI H a C ∧ Paired ClsV cs us ∧ PySem.W.kitAny K (.ref C) us = some b ∧ Q (.bl b) H
theorem call_isV : CallR X (.builtin "isinstance") (rIsV X.K) := by
  intro pins s σ H xs us Q I r h
  obtain ⟨a, C, c, u, b, rfl, T, hx, k, e, q⟩ := h
  obtain ⟨u1, u2, rfl, r1, r2⟩ := vals2 r
  have e2 := k.eq r2
  subst e2
  cases r1
  exact PySem.W.kia_one (PySem.EVX.kit_exc T.exc) I.kIn (inst_at I hx) e (fun z => nomatch z) fun tk => ⟨.bl b, H, I.tok tk, rfl, q⟩
theorem call_isVT : CallR X (.builtin "isinstance") (rIsVT X.K) := by
  intro pins s σ H xs us Q I r h
  obtain ⟨a, C, tp, cs, ws, b, rfl, hT, T, hx, k, e, q⟩ := h
  obtain ⟨u1, u2, rfl, r1, r2⟩ := vals2 r
  cases r1
  cases (show u2 = Value.ref tp from r2)
  obtain ⟨_, its, rv, o, h1, h2, n, h3⟩ := (show ObjOk X.prog X.w H s.heap tp (.tup cs) from I.hok tp _ hT)
  have e3 := ClsV.all k rv
  subst e3
  obtain ⟨oc, od, dt, sl⟩ := o
  simp only at h2 h3
  subst h2 h3
  exact PySem.W.kia_tup (PySem.EVX.kit_exc T.exc) I.kIn (inst_at I hx) h1 e (fun z => nomatch z) fun tk => ⟨.bl b, H, I.tok tk, rfl, q⟩
/-- e.f -/
def tFldV (K : PySem.W.Frag) (f : Str) (te : TE) : TE := fun σ H Q => te σ H fun x H1 => ∃ a C v, x = .ref a ∧ ECls K C ∧ PySem.W.findIn K (.ref C) f = some none ∧ Ex1 H1 a C f v ∧ Q v H1
theorem pe_fldV (he : PE X e te) (hb : attributeBase e f X.env (eval e X.env) = eval e X.env := by rfl) : PE X (.Attribute e f pos) (tFldV X.K f te) := by
  refine ⟨fun pins s σ H Q I h => ?_⟩
  refine attr_of hb (thn (he.run pins s σ H _ I h) fun u s1 hh => ?_)
  obtain ⟨x, H1, I1, rx, a, C, v, ex, T, hno, ⟨dx, h1, h2⟩, q⟩ := hh
  subst ex
  obtain rfl : u = Value.ref a := rx
  obtain ⟨t1, ho⟩ := exo_at I1.hok h1
  obtain ⟨mA, hn, rel⟩ := exd_at I1.hok h2
  obtain ⟨od, hod, hl⟩ := lookIn_ns hn
  have r := rel f
  rw [lookup_put, if_pos rfl] at r
  obtain ⟨u, hu, ru⟩ := RelO.some_of (v := v) (o := mA f) r
  have J : PySem.W.InstAt s1.heap a _ C (some od) := ⟨ho, rfl, rfl, hod⟩
  exact HandSPX.exc_get I1.kIn J T.exc.hg T.exc.hk T.exc.hs (PySem.W.findObj_own T.exc.hd hno rfl (by rw [hl, hu])) (handed_of ru) ⟨v, H1, I1.tok _, ru, q⟩
end
section
variable {P : Program} {w : World} {K : PySem.W.Frag} {mg : Str → Option Value} {base : Heap} {f qual : Str} {C : Addr}
/-- def __init__(self, f): self.f = f -/
theorem ok_ini {fI : Addr} {fd : FuncData} {st : Stmt} (F : FunD K "__init__" qual (defArgs st) (defBody st) (defScope st) [] [] fI fd) (T : OexC K C) (no : PySem.W.findIn K (.ref C) f = some none)
    (S : FnScope ["self", f] ["self", f] (defScope st)) {p1 p2 p3 p4 : Pos} (hb : defBody st = [.Assign [.Attribute (.Name "self" p1) f p2] (.Name f p3) p4]) (v0 : Vis (defScope st) "self") (v1 : Vis (defScope st) f)
    (hd : (f == ("__debug__" : Str)) = false) (hcd : (f == ("__classdict__" : Str)) = false) : FnOk P w K mg base CX0 1 fI fd ["self", f] (spIni C f) := by
  refine F.ok S (fun vs H Q E h => ?_) (fun cdv A outer s H vs Q E hr h => ?_)
  · obtain ⟨a, v, rfl, _⟩ := h
    rfl
  · obtain ⟨a, v, rfl, ha, k⟩ := h
    rw [hb]
    refine ⟨_, PSs.nox (pss_one (ps_ost (pe_var (i := 0) rfl v0) (pe_var (i := 1) rfl v1 hd hcd))), ?_⟩
    exact ⟨_, rfl, _, rfl, a, C, rfl, T, no, .inl ⟨ha, fun dx hd hn => k dx hd hn⟩⟩
end
end EV

set_option Elab.async false
set_option linter.all false
set_option maxRecDepth 100000
set_option maxHeartbeats 4000000
/-! a list comprehension within a def that is called while an exception is handled -/
namespace HLC
open PySem PySem.Spec PyProof.Rows L2 L2H
abbrev blkH (X : Cx) (s : Shared) (H : Hp) (sc : Scope) (ce : Env) (fp : List Addr) (p : Addr × Obj) : Cx := { X.blk s H sc ce fp with pn := [p] }
variable {X : Cx}
theorem okPn {Y : Cx} (ok : Y.Ok) (l : List (Addr × Obj)) : ({ Y with pn := l } : Cx).Ok :=
  ⟨ok.mod, ok.kind, ok.glob, ok.blt, ok.above, ok.inj, ok.has, ok.cab, ok.hd, ok.frames, ok.stk, ok.exf, ok.bs, ok.bsz, ok.noex, ok.exfs, ok.funs, ok.frf⟩
theorem invPn {Y : Cx} {σ : L2.St} {H : Hp} {s : Shared} (I : Inv Y [] σ H s) (l : List (Addr × Obj)) (h : ∀ p ∈ l, s.heap.get? p.1 = some p.2 ∧ H p.1 = none ∧ p.1 ≠ Y.env.locals ∧ p.1 ∉ Y.fs ∧ ∀ v, p.2.data ≠ .cell v) : Inv ({ Y with pn := l } : Cx) [] σ H s :=
  ⟨okPn I.ok l, I.os, I.bare, I.base, I.loc, I.cell, I.free, I.freeC, fun p hp => h p (by rw [List.append_nil] at hp; exact hp), I.hok, I.len⟩
theorem lcH_core {pins : List (Addr × Obj)} {s : Shared} {σ : L2.St} {H : Hp} {Q : VK} {elt tg iter : Expr} {ifs : List Expr} {sc : Scope} {own : List (Str × Nat)} {pos pos' : Pos} {wi : TI} {g : TG} {tt : TT} {te : TE} {use : Option (Value → Sem Unit)} {Qf : Value → Shared → Prop}
    (hc : HotC X) (hN : X.N.Nodup) (I : Inv X pins σ H s) (hi : PIH X tg iter wi) (ok : BlkOk X.N X.env.scope sc own)
    (hg : ∀ (s : Shared) (H : Hp) (C : Addr) (cl : List (Str × Addr)) (fp : List Addr) (p : Addr × Obj), p ∈ X.pn → Hot1 X.A p → PG (blkH X s H sc (compEnvC sc cl C X.env) fp p) tg g)
    (ht : ∀ (s : Shared) (H : Hp) (C : Addr) (cl : List (Str × Addr)) (fp : List Addr) (p : Addr × Obj), p ∈ X.pn → Hot1 X.A p → PTs (blkH X s H sc (compEnvC sc cl C X.env) fp p) ifs tt)
    (he : ∀ (s : Shared) (H : Hp) (C : Addr) (cl : List (Str × Addr)) (fp : List Addr) (p : Addr × Obj), p ∈ X.pn → Hot1 X.A p → PE (blkH X s H sc (compEnvC sc cl C X.env) fp p) elt te) (hs : ∀ x, foldedSetIterable iter X.env x = pure x)
    (h : tLc wi g tt te (own.map (·.2)) σ H Q)
    (hR : ∀ D C s' m H', Inv X pins σ H' s' → Q (.ref D) H' → s'.heap.Ns C m → FpOk X pins H' C → compPost (model X.prog X.w) X.A X.xe use Qf (.ref D) C (.ok .next) s') :
    wpAny (model X.prog X.w) X.A (comprehension (.ListComp elt [⟨tg, iter, ifs, 0⟩] sc pos) sc X.env pos' (newList []) false (eval iter X.env) use) Qf X.xe s := by
  obtain ⟨p, hot, hpn⟩ := id hc
  have hfr : ∀ y ∈ sc.names, y.2 = .free → ∃ c, X.env.cells.lookup y.1 = some c := fun y hy e => (ok.free y hy e).elim (fun z => I.ok.has _ (.inl z)) (fun z => I.ok.has _ (.inr z))
  refine wpAny_comprehension_free (use := use) rfl hs (closure_ok hfr) ok.kind (fun y hy e => by rw [ok.uniq y hy, e]) (thn (hi.run pins s σ H _ I h) fun xv t1 hx => thn hx fun itv t2 h2 => ?_)
  obtain ⟨it, fp, tn, J, H2, e, I2, T, st2, f2, q⟩ := h2
  subst e
  refine wpAny_newObj_type (newEnv_comp ?_) (by show 0 ≤ sizeLine; decide)
  generalize eD : t2.heap.objs.size = D
  have nD : H2 D = none := I2.hok.fresh (Nat.le_of_eq eD)
  obtain ⟨W, ⟨m0, w0⟩, turn⟩ := q D nD
  generalize et3 : ({ t2 with heap := t2.heap.push { cls := .type "list", data := .seq ([] : List Value).toArray } } : Shared) = t3
  have J3 : Inv X pins σ (upd H2 D (.lst [])) t3 := by
    rw [← et3]
    refine I2.laid (t' := t2.toks) (fun b o z => Heap.get?_push_of_some _ z) (Nat.le_of_eq eD) ⟨Nat.zero_le _, [], 0, .nil, ?_⟩
    rw [← eD]; exact Heap.get?_push_size _ rfl
  have eh3 : t3.heap = t2.heap.push { cls := .type "list", data := .seq ([] : List Value).toArray } := by rw [← et3]
  have lt2 : ∀ b ∈ fp, b < t2.heap.objs.size := fun b hb => let ⟨o, z, _⟩ := T.obj _ _ st2 b hb; Heap.lt_size z
  have g3 : ∀ b ∈ fp, FpOk X pins (upd H2 D (.lst [])) b ∧ b < t3.heap.objs.size := fun b hb => by
    have l := lt2 b hb
    refine ⟨⟨?_, (f2 b hb).2⟩, by rw [eh3, Heap.size_push]; exact Nat.lt_succ_of_lt l⟩
    rw [upd_ne (by rw [← eD]; exact Nat.ne_of_lt l)]; exact (f2 b hb).1
  have u3 : tn 0 t3.heap := T.keep _ _ _ st2 fun b _ o z => by rw [eh3]; exact Heap.get?_push_of_some _ z
  have J4 := block_start J3 ok hN g3
  have pg := hg t3 (upd H2 D (.lst [])) t3.heap.objs.size (cellsFrom (t3.heap.objs.size + 1) sc.names (cloFrom X.env.cells sc.names [])) fp p hpn hot
  have pt := ht t3 (upd H2 D (.lst [])) t3.heap.objs.size (cellsFrom (t3.heap.objs.size + 1) sc.names (cloFrom X.env.cells sc.names [])) fp p hpn hot
  have pe := he t3 (upd H2 D (.lst [])) t3.heap.objs.size (cellsFrom (t3.heap.objs.size + 1) sc.names (cloFrom X.env.cells sc.names [])) fp p hpn hot
  show codeAny _ _ (.compStart (.ListComp elt [⟨tg, iter, ifs, 0⟩] sc pos) 0 (.ref it) (.ref D) (compEnvC sc (cellsFrom (t3.heap.objs.size + 1) sc.names (cloFrom X.env.cells sc.names [])) t3.heap.objs.size X.env)) (compPost (model X.prog X.w) X.A X.xe use Qf (.ref D) t3.heap.objs.size) { t3 with heap := pushCells (t3.heap.push { cls := .type "dict", data := .dict #[] }) sc.names }
  have n3 : ∀ b ∈ fp, (upd H2 D (.lst [])) b = none := fun b hb => (g3 b hb).1.1
  have P3 := J3.pin p (List.mem_append_left _ hpn)
  have pne : ∀ b ∈ fp, p.1 ≠ b := fun b hb => (g3 b hb).1.2.2.2.2.2 p (List.mem_append_left _ hpn)
  have J5 : Inv (blkH X t3 (upd H2 D (.lst [])) sc (compEnvC sc (cellsFrom (t3.heap.objs.size + 1) sc.names (cloFrom X.env.cells sc.names [])) t3.heap.objs.size X.env) fp p) [] (wipe σ (own.map (·.2))) (upd H2 D (.lst [])) { t3 with heap := pushCells (t3.heap.push { cls := .type "dict", data := .dict #[] }) sc.names } :=
    invPn J4 [p] fun r hr => by
      rw [List.mem_singleton] at hr
      subst hr
      refine ⟨pushCells_keeps _ _ _ _ (Heap.get?_push_of_some _ P3.1), P3.2.1, ?_, fun z => ?_, P3.2.2.2.2⟩
      · exact Nat.ne_of_lt (Heap.lt_size P3.1)
      · exact (List.mem_cons.mp (J3.stkSub r.1 z)).elim P3.2.2.1 P3.2.2.2.1
  clear J4
  generalize ece : compEnvC sc (cellsFrom (t3.heap.objs.size + 1) sc.names (cloFrom X.env.cells sc.names [])) t3.heap.objs.size X.env = ce at J5 pg pt pe ⊢
  have eL : ce.locals = t3.heap.objs.size := by subst ece; rfl
  generalize eH3 : upd H2 D (.lst []) = H3 at J3 J5 pg pt pe w0 n3 g3
  generalize et4 : ({ t3 with heap := pushCells (t3.heap.push { cls := .type "dict", data := .dict #[] }) sc.names } : Shared) = t4 at J5 ⊢
  have u4 : tn 0 t4.heap := T.keep _ _ _ u3 fun b _ o z => by rw [← et4]; exact pushCells_keeps _ _ _ _ (Heap.get?_push_of_some _ z)
  have hcb : HotC (blkH X t3 H3 sc ce fp p) := ⟨p, hot, List.mem_singleton.mpr rfl⟩
  have stat : ∀ {σ' : L2.St} {H' : Hp} {s' : Shared}, Inv (blkH X t3 H3 sc ce fp p) [] σ' H' s' → (∀ b ∈ fp, H' b = none) → ∀ b ∈ fp, FpOk (blkH X t3 H3 sc ce fp p) [] H' b := fun {σ' H' s'} K hn b hb =>
    ⟨hn b hb, (K.ok.exf b hb).1, K.ok.exfs b hb, .inl hb, fun x c z => (K.ok.exf b hb).2 x c z, fun r hr => by
      have z : r ∈ [p] ++ ([] : List (Addr × Obj)) := hr
      rw [List.append_nil, List.mem_singleton] at z
      rw [z]; exact pne b hb⟩
  have loop : codeAny (model X.prog X.w) X.A (.compLoop (.ListComp elt [⟨tg, iter, ifs, 0⟩] sc pos) 0 (.ref it) (.ref D) ce) (compPost (model X.prog X.w) X.A X.xe use Qf (.ref D) t3.heap.objs.size) t4 := by
    refine compLoop_any (fun n s' => ∃ i H', Inv (blkH X t3 H3 sc ce fp p) [] (wipe σ (own.map (·.2))) H' s' ∧ tn i s'.heap ∧ (∀ b ∈ fp, H' b = none) ∧ W i n H') ?_ m0 ⟨0, H3, J5, u4, n3, w0⟩
    rintro n t5 ⟨i, H5, K5, st5, z5, w5⟩
    rcases turn i n H5 w5 with ⟨stop, qq⟩ | ⟨go, Nx, hNx, step⟩
    · refine thnF (T.done (blkH X t3 H3 sc ce fp p) rfl rfl rfl hcb i [] t5 _ H5 (fun _ _ => False) K5 (stat K5 z5) st5 stop) fun r t6 ⟨hr, K6⟩ => ?_
      subst hr
      have K7 : Inv X pins σ H5 t6 := J3.call' (ch := fp) K6.os K6.base K6.hok K6.bare fun b hb => ⟨(g3 b hb).1.2.2.2.1, (g3 b hb).1.2.1, (g3 b hb).1.2.2.2.2.1, (g3 b hb).1.2.2.2.2.2⟩
      have nC : H5 t3.heap.objs.size = none := by
        have z : H5 ce.locals = none := K6.free
        rw [eL] at z; exact z
      obtain ⟨m, hn, _⟩ := K6.loc
      have hn2 : t6.heap.Ns ce.locals m := hn
      rw [eL] at hn2
      exact hR D t3.heap.objs.size t6 m H5 K7 qq hn2 (J3.fpOk (Nat.le_refl _) nC)
    · refine thnF (T.item (blkH X t3 H3 sc ce fp p) rfl rfl rfl hcb i [] t5 _ H5 (fun _ _ => False) K5 (stat K5 z5) st5 go) fun r t6 ⟨u, hr, h6⟩ => ?_
      subst hr
      refine thnF h6 fun _ t7 ⟨x, H7, K7, r7, y7, st7, n7⟩ => ?_
      have K7' := K7.pinned (stat K7 n7) (T.obj _ _ st7)
      refine thnF (pg.run _ t7 _ H7 x u _ K7' r7 (step x H7 y7)) fun _ t8 ⟨σ8, H8, K8, hw8, q8⟩ => ?_
      refine thnF (pt.run _ t8 σ8 H8 _ K8 q8) fun b t9 ⟨H9, K9, q9⟩ => ?_
      have fin : ∀ {s' : Shared} {H' : Hp}, Inv (blkH X t3 H3 sc ce fp p) ([] ++ pinsAt fp t7.heap) σ8 H' s' → Nx H' → ∃ m, m < n ∧ ∃ i H', Inv (blkH X t3 H3 sc ce fp p) [] (wipe σ (own.map (·.2))) H' s' ∧ tn i s'.heap ∧ (∀ b ∈ fp, H' b = none) ∧ W i m H' := fun {s' H'} K' nx => by
        obtain ⟨m', hm, w'⟩ := hNx H' nx
        have stay : ∀ b ∈ fp, ∀ o, t7.heap.get? b = some o → s'.heap.get? b = some o ∧ H' b = none := fun b hb o z =>
          let y := K'.pin (b, o) (List.mem_append_right _ (List.mem_append_right _ (mem_pinsAt hb z))); ⟨y.1, y.2.1⟩
        have hl : (wipe σ (own.map (·.2))).length = σ8.length := by rw [← hw8, wipe_length]
        refine ⟨m', hm, i + 1, H', (K'.unpinned (pins := [])).weak hl (fun j v z => ?_), T.keep _ _ _ st7 fun b hb o z => (stay b hb o z).1, fun b hb => ?_, w'⟩
        · rw [← hw8] at z; exact (wipe_some z).1
        · obtain ⟨o, z, _⟩ := T.obj _ _ st7 b hb; exact (stay b hb o z).2
      cases b with
      | false =>
        simp only [Bool.false_eq_true, if_false] at q9 ⊢
        exact fin K9 q9
      | true =>
        simp only [if_true] at q9 ⊢
        refine thnF (pe.run _ t9 σ8 H9 _ K9 q9) fun z t10 ⟨yv, H10, K10, r10, acc, hD10, hz10, nx⟩ => ?_
        exact app_ok (X := blkH X t3 H3 sc ce fp p) K10 hD10 hz10 r10 fun t11 K11 => fin K11 nx
  exact codeAny_compStart_list loop (T.self X.A 0 _ _ _ u4 loop)
/-- as a value -/
theorem pe_lcH {elt tg iter : Expr} {ifs : List Expr} {sc : Scope} {own : List (Str × Nat)} {pos : Pos} {wi : TI} {g : TG} {tt : TT} {te : TE} (hc : HotC X) (hN : X.N.Nodup) (hi : PIH X tg iter wi) (ok : BlkOk X.N X.env.scope sc own)
    (hg : ∀ (s : Shared) (H : Hp) (C : Addr) (cl : List (Str × Addr)) (fp : List Addr) (p : Addr × Obj), p ∈ X.pn → Hot1 X.A p → PG (blkH X s H sc (compEnvC sc cl C X.env) fp p) tg g)
    (ht : ∀ (s : Shared) (H : Hp) (C : Addr) (cl : List (Str × Addr)) (fp : List Addr) (p : Addr × Obj), p ∈ X.pn → Hot1 X.A p → PTs (blkH X s H sc (compEnvC sc cl C X.env) fp p) ifs tt)
    (he : ∀ (s : Shared) (H : Hp) (C : Addr) (cl : List (Str × Addr)) (fp : List Addr) (p : Addr × Obj), p ∈ X.pn → Hot1 X.A p → PE (blkH X s H sc (compEnvC sc cl C X.env) fp p) elt te) (hs : ∀ x, foldedSetIterable iter X.env x = pure x := by intro _; rfl) :
    PE X (.ListComp elt [⟨tg, iter, ifs, 0⟩] sc pos) (tLc wi g tt te (own.map (·.2))) := by
  refine ⟨fun pins s σ H Q I h => ?_⟩
  rw [eval_ListComp]
  refine lcH_core hc hN I hi ok hg ht he hs h fun D C s' m H' K q hn f => ⟨m, hn, fun h2 sb => ?_⟩
  obtain ⟨f0, f1, f2, f3, f4, f5⟩ := f
  exact ⟨.ref D, H', K.turned (t' := s'.toks) (fun b o hb e => (sb.2 b hb).trans e) f0 f1 f3 f4 f5, rfl, q⟩
end HLC

set_option Elab.async false
set_option linter.all false
set_option maxRecDepth 100000
set_option maxHeartbeats 4000000
namespace HCX
open PySem PySem.Spec PyProof.Rows L2 L2H HLC EV
/-- a promise that knows the exception that is handled -/
structure FnP2 (P : Program) (w : World) (K : PySem.W.Frag) (mg : Str → Option Value) (base : Heap) (CX : CXT) (k : Nat) (f : Addr) (fd : FuncData) (ps : List Str) (sp : Addr × Obj → Sp) : Prop where
  len : ∀ p vs H Q E, sp p vs H Q E → vs.length = ps.length
  run : ∀ (A : Around) (outer : List Env) (s : Shared) (H : Hp) (args : Args) (us : List Value) (vs : List V) (Q : VK) (E : XK) (p : Addr × Obj), RoomH k A → Hot1 A p → PinOk outer H s p → Env0 P w K mg base A outer s H → BindsTo s fd args (ps.zip us) → Vals vs us → sp p vs H Q E →
    codeAny (model P w) A (.call (.ref f) args) (CR CX outer P w H s Q E) s
theorem fnP2_of {CX : CXT} {P : Program} {w : World} {K : PySem.W.Frag} {mg : Str → Option Value} {base : Heap} {k : Nat} {f : Addr} {x qual : Str} {params : Arguments} {body : List Stmt} {sc : Scope} {fd : FuncData} {N ps : List Str} {sp : Addr × Obj → Sp}
    (F : FunD K x qual params body sc [] [] f fd) (S : FnScope N ps sc) (len : ∀ p vs H Q E, sp p vs H Q E → vs.length = ps.length)
    (hbody : ∀ (cdv : Value) (A : Around) (outer : List Env) (s : Shared) (H : Hp) (vs : List V) (Q : VK) (E : XK) (p : Addr × Obj), Hot1 A p → RoomH k (A.deeper (envOfC qual sc s.heap.objs.size f cdv)) → sp p vs H Q E →
      ∃ t, PSs (cxH CX P w K mg base N qual sc f cdv A outer s H E p) body t ∧ t { nx := fun _ H' => Q .non H', rt := Q } (L2.start N vs) H) : FnP2 P w K mg base CX (k + 1) f fd ps sp := by
  obtain ⟨oc, od, dV, kV, doc, pm, an, cdv, ct, osl, rfl, lk, hcd, _, _⟩ := F.ex
  refine ⟨len, fun A outer s H args us vs Q E p hr hot hpin e0 hb r hsp => ?_⟩
  have hl := len p _ _ _ _ hsp
  have KX : K.In s.heap := e0.mod.kin.keeps fun b o z => (e0.bs b o z).1
  have lim : s.heap.NoLimit := e0.mod.nolimit.keeps fun b o z => (e0.bs b o z).1
  have hkind : ∀ y ∈ ps.zip us, sc.names.lookup y.1 = some .local ∨ (sc.names.lookup y.1 = some .cell ∧ ((cellsFrom (s.heap.objs.size + 1) sc.names []).lookup y.1).isSome = true) := fun ⟨n, v⟩ hy =>
    (S.par n (List.of_mem_zip hy).1).elim (fun q => .inl q) fun q => .inr ⟨q, PySem.W.cellsFrom_some _ _ _ (.inl q)⟩
  refine codeAny_call_function hr.depth (KX _ _ lk) rfl S.co S.gen rfl (PySem.W.codeRec_of KX hcd) (hb _ _ _ _ (wpAny_newFunctionEnv_cells S.kind hkind fun env he s1 x => ?_))
  subst he
  refine ⟨lim.keeps x.toInCall.keep, codeAny_func ?_⟩
  obtain ⟨t, ht, hq⟩ := hbody cdv A outer s H vs Q E p hot (hr.deeper _) hsp
  have I : Inv (cxH CX P w K mg base N qual sc f cdv A outer s H E p) [] (L2.start N vs) H s1 := inv_startH S hpin e0 hl r x
  refine wpAny_mono (ht.run [] s1 (L2.start N vs) H _ I hq) (fun fl s' hs => ?_) fun e s' hs => hs
  cases fl with
  | ret u =>
    obtain ⟨v, σ', H', J, rv, q⟩ := hs
    exact ⟨v, H', J.os, J.bare, J.base, J.hok, rv, q⟩
  | next =>
    obtain ⟨σ', H', J, q⟩ := hs
    exact ⟨V.non, H', J.os, J.bare, J.base, J.hok, rfl, q⟩
  | brk => obtain ⟨_, _, _, q⟩ := hs; exact q.elim
  | cont => obtain ⟨_, _, _, q⟩ := hs; exact q.elim
section
variable {X : Cx} {k : Nat} {f : Addr} {fd : FuncData} {ps : List Str} {sp : Addr × Obj → Sp} {x : Str} {q pos : Pos} {e : Expr} {es : List Expr} {t : TA}
/-- f(e, ..) while p is handled; nothing is raised -/
theorem pe_callP2 (F : FnP2 X.prog X.w X.K X.mg X.base CX0 k f fd ps sp) (hr : RoomH k X.A) (p : Addr × Obj) (hp : p ∈ X.pn) (hot : Hot1 X.A p) (hg : Gl X x) (hm : X.mg x = some (.ref f)) (hk : PySem.W.keepIn X.K (.ref f) = true) (hb : L2.Binds X.K fd ps [])
    (ha : PA X (e :: es) t) (hdb : (x == ("__debug__" : Str)) = false := by decide) (he : starEach (e :: es) X.env = (false, eval e X.env) :: starEach es X.env := by rfl) (hpl : (backTo pos (starEach es X.env)).any (·.1) = false := by rfl) :
    PE X (.Call (.Name x q) (e :: es) [] pos) (fun σ H Q => t σ H fun vs H1 => sp p vs H1 Q E0) := by
  refine ⟨fun pins s σ H Q I h => wpAny_Call_Name_kw (ld_glob I hg hm ?_ hdb)⟩
  refine PySem.W.callWith_K (h₀ := X.base) I.ok.mod.kin hk (thn (ha.run pos pins s σ H _ I h) fun us s1 ⟨vs, H1, I1, r, h1⟩ => ⟨I1.kIn, ?_⟩) he hpl
  have hl : us.length = ps.length := by rw [← r.length]; exact F.len p _ _ _ _ h1
  have b := hb s1 us I1.kIn (by rw [List.append_nil]; exact hl)
  rw [List.append_nil] at b
  have P1 := I1.pin p (List.mem_append_left _ hp)
  have pin1 : PinOk X.stack H1 s1 p := ⟨P1.1, P1.2.1, fun z => (List.mem_cons.mp (I1.stkSub p.1 z)).elim P1.2.2.1 P1.2.2.2.1, P1.2.2.2.2⟩
  refine wpAny_call (codeAny_mono (F.run X.A X.stack s1 H1 ⟨us, []⟩ us vs Q E0 p hr hot pin1 I1.env0 b r h1) fun r s' hq => ?_)
  cases r with
  | error e => exact (hq : False).elim
  | ok fl =>
    cases fl with
    | ret u => exact I1.after hq
    | next => exact (hq : False).elim
    | brk => exact (hq : False).elim
    | cont => exact (hq : False).elim
end
section
variable {X : Cx} {x f : Str} {C : Addr} {e : Expr} {te : TE} {p pos : Pos}
/-- C(e) that is raised at once, where nothing is handled: its context is None -/
theorem pmk_own (T : EIni X.prog X.w X.K X.mg X.base x C f) (hr : Room 2 X.A) (hg : Gl X x) (he : PE X e te) (hx : X.ex = []) (hdb : (x == ("__debug__" : Str)) = false := by decide) (hs : starEach [e] X.env = (false, eval e X.env) :: starEach [] X.env := by rfl)
    (hpl : (backTo pos (starEach [] X.env)).any (·.1) = false := by rfl) :
    L2N.PMk X (.Call (.Name x p) [e] [] pos) (fun σ H Q => te σ H fun v H1 => ∀ a dx, H1 a = none → H1 dx = none → dx ≠ a → Fr0 X.H_0 a ∧ Q (.ref C) (some dx) (delH (hMk H1 a dx C f v) a)) := by
  intro pins s σ H Q I h
  refine wpAny_Call_Name_kw (ld_glob I hg T.g ?_ hdb)
  refine PySem.W.callWith_K (h₀ := X.base) I.ok.mod.kin T.oex.kC ?_ hs hpl
  rw [hs]
  show wpAny _ _ (spliced ((false, eval e X.env) :: backTo pos (starEach [] X.env))) _ _ s
  refine Calls.spliced_cons (thn (he.run pins s σ H _ I h) fun w1 s0 ⟨v, H1, I0, r1, q1⟩ => ?_)
  refine Calls.spliced_nil ⟨I0.kIn, ?_⟩
  refine wpAny_mono (run_mk (us := [w1]) (ws := []) (ks := []) (Q := fun y H' => ∃ a dx v H1, y = .ref a ∧ H' = hMk H1 a dx C f v ∧ Fr0 X.H_0 a ∧ Q (.ref C) (some dx) (delH H' a) ∧ dx ≠ a) T hr I0 (.inr ⟨rfl, rfl, .cons r1 .nil⟩) (fun a dx h1 h2 hn => ⟨a, dx, v, H1, rfl, rfl, (q1 a dx h1 h2 hn).1, (q1 a dx h1 h2 hn).2, hn⟩)) (fun u s1 hu => ?_) fun _ _ z => z
  · obtain ⟨y, H', I1, ry, a, dx, v, H1, rfl, rfl, h0, q, hn⟩ := hu
    obtain rfl : u = Value.ref a := ry
    have ha : hMk H1 a dx C f v a = some (exo a C (some dx)) := upd_same
    obtain ⟨t1, ho⟩ := exo_at I1.hok ha
    obtain ⟨G, gs, ga, J⟩ := I1.untrack (φ := fun h => ∃ t1 : Addr, h.get? a = some ({ cls := .ref C, dict := some dx, data := .fields #[.ref t1, .none, .none, .none, .bool false, .none] } : Obj)) ha h0 hx
    exact ⟨a, _, _, { s1 with heap := G }, delH (hMk H1 a dx C f v) a, .ref C, some dx, rfl, J, gs, ga, ho, ⟨rfl, rfl, fun vs z => by cases z; rfl⟩, rfl, rfl, delH_same, rfl, I1.bare, raises_own T.oex.exC T.oex.tyC, q⟩
/-- isinstance(e, c), e the handled exception (pinned at p), its dict at d -/
def rIsP (K : PySem.W.Frag) (p : Addr × Obj) : List V → Hp → VK → Prop := fun xs H Q => ∃ (C dx : Addr) (fs : List (Str × V)) (c : V) (u : Value) (b : Bool), xs = [.ref p.1, c] ∧ ECls K C ∧ p.2.cls = .ref C ∧ p.2.dict = some dx ∧ H dx = some (exd dx fs) ∧ (∃ vs, p.2.data = .fields vs) ∧ ClsV c u ∧ PySem.W.kitOne K (.ref C) u = some b ∧ Q (.bl b) H
theorem call_isP (pp : Addr × Obj) (hp : pp ∈ X.pn) : CallR X (.builtin "isinstance") (rIsP X.K pp) := by
  intro pins s σ H xs us Q I r h
  obtain ⟨C, dx, fs, c, u, b, rfl, T, hcl, hdi, hd, ⟨vs, hv⟩, k, ek, q⟩ := h
  obtain ⟨u1, u2, rfl, r1, r2⟩ := vals2 r
  have e2 := k.eq r2
  subst e2
  cases r1
  obtain ⟨mA, hn, _⟩ := exd_at I.hok hd
  obtain ⟨od, ho, _⟩ := lookIn_ns hn
  have P1 := I.pin pp (List.mem_append_left _ hp)
  have J : ∃ ox od, PySem.W.InstAt s.heap pp.1 ox C od := ⟨pp.2, some od, P1.1, hcl, by unfold PySem.W.notCls; rw [hv], by rw [hdi]; exact ho⟩
  exact PySem.W.kia_one (PySem.EVX.kit_exc T.exc) I.kIn J ek (fun z => nomatch z) fun tk => ⟨.bl b, H, I.tok tk, rfl, q⟩
end
end HCX

set_option Elab.async false
set_option linter.all false
set_option maxRecDepth 100000
set_option maxHeartbeats 4000000
namespace K95
open PySem PySem.Spec PyProof.Rows L2 EV HLC HCX

/-! ### the drawn numbers: the state is a list of four at p, its first item the list of cells at q -/
theorem dp_ints {K : PySem.W.Frag} {H : Hp} : ∀ cs : List Int, DpAll K H (cs.map V.int) (cs.map PyData.int)
  | [] => .nil
  | c :: cs => .cons (.int c) (dp_ints cs)
theorem can_ints : ∀ cs : List Int, PyData.canLayAll0 (cs.map PyData.int) = true
  | [] => by simp [PyData.canLayAll0]
  | z :: zs => by simp [PyData.canLayAll0, PyData.canLay0, can_ints zs]
theorem dep_ints : ∀ cs : List Int, PyData.depthAll (cs.map PyData.int) ≤ 1
  | [] => by simp [PyData.depthAll]
  | z :: zs => by
    have h := dep_ints zs
    simp only [List.map_cons, PyData.depthAll, PyData.depth]
    omega
theorem shaped_ints (cs : List Int) : SeqAt.shaped (.list (cs.map PyData.int)) = true := by
  have h := dep_ints cs
  have e : PyData.depth (.list (cs.map PyData.int)) ≤ 64 := by simp only [PyData.depth]; omega
  show (PyData.canLay0 (.list (cs.map PyData.int)) && decide (PyData.depth (.list (cs.map PyData.int)) ≤ 64)) = true
  rw [decide_eq_true e, show PyData.canLay0 (.list (cs.map PyData.int)) = true by simp only [PyData.canLay0]; exact can_ints cs]
  rfl
theorem neq_cons (z : Int) (zs : List Int) : (!PyData.eqv (.list ((z :: zs).map PyData.int)) (.list [])) = true := by
  simp [PyData.eqv, PyData.eqvAll]
theorem if_true_of {c : Bool} {A B : Prop} (hc : c = true) (h : A) : if c = true then A else B := by rw [hc]; exact iteT h
theorem if_false_of {c : Bool} {A B : Prop} (hc : c = false) (h : B) : if c = true then A else B := by rw [hc]; exact iteF h
theorem while_fin {c : TT} {tb : TS} {D : Ends} {σ : L2.St} {H : Hp} (Pv : L2.St → Hp → Prop) (μ : L2.St → Hp → Nat) (Fin : L2.St → Hp → Prop) (h0 : Pv σ H)
    (hs : ∀ σ H, Pv σ H → c σ H fun b H1 => if b = true then tb { D with nx := fun σ' H' => Pv σ' H' ∧ μ σ' H' < μ σ H, ct := fun σ' H' => Pv σ' H' ∧ μ σ' H' < μ σ H, bk := D.nx } σ H1 else Fin σ H1)
    (mono : ∀ σ H Q Q', (∀ b H1, Q b H1 → Q' b H1) → c σ H Q → c σ H Q') (hd : ∀ σ H, Fin σ H → D.nx σ H) : tWhile c tb D σ H :=
  while_by Pv μ h0 (fun σ H h => mono σ H _ _ (fun b H1 q => by
    cases b with
    | true => exact iteT (by rw [if_pos rfl] at q; exact q)
    | false => exact iteF (hd _ _ (by rw [if_neg Bool.false_ne_true] at q; exact q))) (hs σ H h)) mono
def St4 (q : Addr) (a b c : Int) : List V := [.ref q, .int a, .int b, .int c]
structure StAt (H : Hp) (p q : Addr) (n : Nat) : Prop where
  ex : ∃ (cells : List Int) (a b c : Int), H p = some (.lst (St4 q a b c)) ∧ H q = some (.lst (cells.map V.int)) ∧ 0 ≤ a ∧ 0 ≤ b ∧ b ≤ n ∧ 0 ≤ c ∧ c < 2147483647
  ne : p ≠ q
/-- all that was tracked stands as it was, but at p and q -/
def But (p q : Addr) (H H' : Hp) : Prop := ∀ b o, H b = some o → b ≠ p → b ≠ q → H' b = some o
theorem But.refl {p q : Addr} {H : Hp} : But p q H H := fun _ _ e _ _ => e
theorem But.trans {p q : Addr} {H H1 H2 : Hp} (a : But p q H H1) (b : But p q H1 H2) : But p q H H2 := fun c o e h1 h2 => b c o (a c o e h1 h2) h1 h2
theorem But.of {p q : Addr} {H H' : Hp} (s : Same H H') : But p q H H' := fun b o e _ _ => s b o e
theorem But.updp {p q : Addr} {H : Hp} {o : HO} : But p q H (upd H p o) := fun b u e h1 _ => by rw [upd_ne h1]; exact e
theorem But.updq {p q : Addr} {H : Hp} {o : HO} : But p q H (upd H q o) := fun b u e _ h2 => by rw [upd_ne h2]; exact e
theorem But.new {p q t : Addr} {H : Hp} {o : HO} (h : H t = none) : But p q H (upd H t o) := fun b u e _ _ => by rw [upd_ne (ne_of_none e h)]; exact e
theorem StAt.mono {H : Hp} {p q : Addr} {n m : Nat} (h : StAt H p q n) (l : n ≤ m) : StAt H p q m := by
  obtain ⟨⟨cs, a, b, c, h1, h2, h3, h4, h5, h6, h7⟩, hn⟩ := h
  exact ⟨⟨cs, a, b, c, h1, h2, h3, h4, by omega, h6, h7⟩, hn⟩
theorem StAt.same {H H' : Hp} {p q : Addr} {n : Nat} (h : StAt H p q n) (s : Same H H') : StAt H' p q n := by
  obtain ⟨⟨cs, a, b, c, h1, h2, r⟩, hn⟩ := h
  exact ⟨⟨cs, a, b, c, s _ _ h1, s _ _ h2, r⟩, hn⟩
theorem Same.new {H : Hp} {t : Addr} {o : HO} (h : H t = none) : Same H (upd H t o) := fun b u e => by rw [upd_ne (ne_of_none e h)]; exact e
def spStart (K : PySem.W.Frag) : Sp := fun vs H Q _ => ∃ (a : Addr) (ns : List Int), vs = [.ref a] ∧ SqL K H a (ns.map V.int) ∧ ∀ p q H', Same H H' → StAt H' p q 0 → H p = none → H q = none → Q (.ref p) H'
def spPick : Sp := fun vs H Q _ => ∃ (p q : Addr) (n : Nat) (m : Int), vs = [.ref p, .int m] ∧ StAt H p q n ∧ n < 1099511627776 ∧ 1 ≤ m ∧ m < 1073741824 ∧
  ∀ (d : Int) H', 0 ≤ d → d < m → StAt H' p q (n + 1) → But p q H H' → Q (.int d) H'
def spBetween : Sp := fun vs H Q _ => ∃ (p q : Addr) (n : Nat) (l h : Int), vs = [.ref p, .int l, .int h] ∧ StAt H p q n ∧ n < 1099511627776 ∧ l ≤ h ∧ h - l < 1073741823 ∧
  ∀ (d : Int) H', l ≤ d → d ≤ h → StAt H' p q (n + 1) → But p q H H' → Q (.int d) H'
theorem ten18 : (10 : Int) ^ (Int.toNat 18) = 1000000000000000000 := by decide
theorem nat_lt {i b : Int} (h0 : 0 ≤ i) (h : i < b) (hb : b ≤ 18446744073709551616) : i.natAbs < 2 ^ 64 := by
  have : (2 : Nat) ^ 64 = 18446744073709551616 := by decide
  omega
section
variable {P : Program} {w : World} {K : PySem.W.Frag} {mg : Str → Option Value} {base : Heap}
theorem scStart : FnScope ["script"] ["script"] (defScope s_law_start) := ⟨rfl, rfl, rfl, by decide +kernel, rfl, by decide +kernel, by decide +kernel⟩
theorem ok_start {f : Addr} {fd : FuncData} (F : FnP K "_law_start" s_law_start f fd) (hl : mg "list" = none) : FnOk P w K mg base CX0 1 f fd ["script"] (spStart K) := by
  refine F.ok scStart (fun vs H Q E h => ?_) (fun cdv A outer s H vs Q E hr h => ?_)
  · obtain ⟨a, ns, rfl, _⟩ := h
    rfl
  · obtain ⟨a, ns, rfl, hS, k⟩ := h
    refine ⟨_, PSs.nox (pss_one (ps_ret (pe_lst (pa_cons (pe_callTy call_list_of (by rfl) hl (by decide +kernel) (pa_cons (pv 0) pa_nil)) (pa_cons pe_int (pa_cons pe_int (pa_cons pe_int pa_nil))))))), ?_⟩
    refine ⟨_, rfl, a, _, rfl, .inl hS, fun l hn => ⟨by show 4 ≤ sizeLine; decide, fun p hp => ?_⟩⟩
    have hne : p ≠ l := fun e => by rw [e, upd_same] at hp; cases hp
    have hp' : H p = none := by rw [upd_ne hne] at hp; exact hp
    refine k p l _ (fun b o e => ?_) ⟨⟨ns, 0, 0, 29, upd_same, ?_, by decide, by decide, by decide, by decide, by decide⟩, hne⟩ hp' hn
    · rw [upd_ne (ne_of_none e hp'), upd_ne (ne_of_none e hn)]; exact e
    · rw [upd_ne hne.symm, upd_same]
theorem scPick : FnScope ["state", "many", "cell", "digit", "mixed"] ["state", "many"] (defScope s_law_pick) := ⟨rfl, rfl, rfl, by decide +kernel, rfl, by decide +kernel, by decide +kernel⟩
theorem set3 {q : Addr} {a b c : Int} : (St4 q a b c)[3]? = some (.int c) := rfl
theorem ok_pick {f : Addr} {fd : FuncData} (F : FnP K "_law_pick" s_law_pick f fd) (hi : mg "int" = none) (ha : mg "abs" = none) : FnOk P w K mg base CX0 1 f fd ["state", "many"] spPick := by
  refine F.ok scPick (fun vs H Q E h => ?_) (fun cdv A outer s H vs Q E hr h => ?_)
  · obtain ⟨p, q, n, m, rfl, _⟩ := h
    rfl
  · obtain ⟨p, q, n, m, rfl, ⟨⟨cs, a, b, c, h1, h2, h3, h4, h5, h6, h7⟩, hpq⟩, hn, hm1, hm2, k⟩ := h
    refine ⟨_, PSs.nox (pss_cons (ps_asg (pe_op op_add (pe_ix ix_list (pv 0) pe_int (fun _ _ => rfl)) pe_int) (pg_sub (pv 0) pe_int set_list)) (pss_cons (ps_while PassesOwn.never (PW.pt (pw_and (pt_cmpR op_eq (pe_ix ix_list (pv 0) pe_int (fun _ _ => rfl)) pe_int (nomark _)) (pw_and1 (pt_cmpR (op_neD hr.units) (pe_ix ix_list (pv 0) pe_int (fun _ _ => rfl)) (pe_lst pa_nil) (nomark _))))) (pss_cons (ps_set (i := 2) scPick.nd rfl (by first | exact .inl rfl | exact .inr rfl) (pe_callB call_abs (by rfl) ha (by decide +kernel) (pa_cons (pe_bm PySem.F.plainAttrs_list PySem.F.slot_list_pop PySem.F.type_list_pop mt_popAt (pe_ix ix_list (pv 0) pe_int (fun _ _ => rfl)) (pa_cons pe_int pa_nil)) pa_nil))) (pss_cons (ps_asg (pe_op op_mod (pe_callTy call_int1 (by rfl) hi (by decide +kernel) (pa_cons (pe_op op_add (pe_op op_add (pe_op op_mul (pe_ix ix_list (pv 0) pe_int (fun _ _ => rfl)) pe_int) (pv 2)) pe_int) pa_nil)) pe_int) (pg_sub (pv 0) pe_int set_list)) (pss_one (ps_asg (pe_ifExp (pt_cmpR op_ge (pv 2) (pe_op op_pow pe_int pe_int) (nomark _)) (pv 2) pe_int) (pg_sub (pv 0) pe_int set_list)))))) (pss_cons (ps_if (pt_cmpR op_gt (pe_ix ix_list (pv 0) pe_int (fun _ _ => rfl)) pe_int (nomark _)) (pss_cons (ps_set (i := 3) scPick.nd rfl (by first | exact .inl rfl | exact .inr rfl) (pe_op op_mod (pe_callTy call_int1 (by rfl) hi (by decide +kernel) (pa_cons (pe_ix ix_list (pv 0) pe_int (fun _ _ => rfl)) pa_nil)) (pv 1))) (pss_cons (ps_asg (pe_op op_fdiv (pe_ix ix_list (pv 0) pe_int (fun _ _ => rfl)) (pv 1)) (pg_sub (pv 0) pe_int set_list)) (pss_one (ps_ret (pv 3))))) pss_nil) (pss_cons (ps_set (i := 4) scPick.nd rfl (by first | exact .inl rfl | exact .inr rfl) (pe_op op_mod (pe_callTy call_int1 (by rfl) hi (by decide +kernel) (pa_cons (pe_op op_pow (pe_op op_add (pe_op op_add (pe_ix ix_list (pv 0) pe_int (fun _ _ => rfl)) (pe_op op_mul pe_int (pe_ix ix_list (pv 0) pe_int (fun _ _ => rfl)))) pe_int) pe_int) pa_nil)) pe_int)) (pss_one (ps_ret (pe_op op_mod (pe_op op_mod (pe_callTy call_int1 (by rfl) hi (by decide +kernel) (pa_cons (pe_op op_pow (pe_op op_add (pe_op op_add (pe_op op_mul (pv 4) pe_int) (pe_op op_mul pe_int (pe_ix ix_list (pv 0) pe_int (fun _ _ => rfl)))) pe_int) pe_int) pa_nil)) pe_int) (pv 1)))))))), ?_⟩
    -- state[2] = state[2] + 1
    refine ⟨_, rfl, p, _, 2, .int b, rfl, rfl, SqL.of h1, rfl, _, _, rfl, rfl, _, rfl, p, St4 q a b c, 2, 2, rfl, rfl, h1, rfl, ?_⟩
    -- while
    refine while_fin (fun σ H' => ∃ (cell : Option V) (cs' : List Int) (a' c' : Int), σ = [some (.ref p), some (.int m), cell, none, none] ∧ H' p = some (.lst (St4 q a' (b + 1) c')) ∧ H' q = some (.lst (cs'.map V.int)) ∧
        0 ≤ a' ∧ 0 ≤ c' ∧ c' < 2147483647 ∧ But p q H H') (fun σ H' => match H' q with | some (.lst xs) => xs.length | _ => 0)
      (fun σ H' => ∃ (cell : Option V) (cs' : List Int) (a' c' : Int), σ = [some (.ref p), some (.int m), cell, none, none] ∧ H' p = some (.lst (St4 q a' (b + 1) c')) ∧ H' q = some (.lst (cs'.map V.int)) ∧
        0 ≤ a' ∧ 0 ≤ c' ∧ c' < 2147483647 ∧ But p q H H')
      ⟨none, cs, a, c, rfl, upd_same, by rw [upd_ne hpq.symm]; exact h2, h3, h6, h7, But.updp⟩ ?_ ?_ ?_
    · rintro σ H1 ⟨cell, cs', a', c', rfl, e1, e2, g1, g2, g3, B⟩
      refine ⟨_, rfl, p, _, 1, .int a', rfl, rfl, SqL.of e1, rfl, rfl, _, rfl, ?_⟩
      by_cases ha0 : a' = 0
      · subst ha0
        refine if_true_of (by simp) ?_
        refine ⟨_, rfl, p, _, 0, .ref q, rfl, rfl, SqL.of e1, rfl, by show 0 ≤ sizeLine; decide, fun r hr0 => ?_⟩
        have hrp : p ≠ r := ne_of_none e1 hr0
        have hrq : q ≠ r := ne_of_none e2 hr0
        refine ⟨.list (cs'.map PyData.int), .list [], .lst (SqL.of (by rw [upd_ne hrq]; exact e2)) (dp_ints _), .lst (SqL.of upd_same) .nil, shaped_ints _, rfl, _, rfl, ?_⟩
        cases cs' with
        | nil =>
          refine if_false_of (by decide) ?_
          exact ⟨cell, [], 0, c', rfl, by rw [upd_ne hrp]; exact e1, by rw [upd_ne hrq]; exact e2, g1, g2, g3, B.trans (But.new hr0)⟩
        | cons z zs =>
          refine if_true_of (neq_cons z zs) ?_
          have e1' : ∀ o, upd H1 r o p = some (.lst (St4 q 0 (b + 1) c')) := fun o => by rw [upd_ne hrp]; exact e1
          have e2' : ∀ o, upd H1 r o q = some (.lst ((z :: zs).map V.int)) := fun o => by rw [upd_ne hrq]; exact e2
          refine ⟨_, rfl, p, _, 0, .ref q, rfl, rfl, SqL.of (e1' _), rfl, .inl ⟨rfl, _, SqL.of (e2' _)⟩, q, _, 0, 0, .int z, rfl, rfl, e2' _, by decide, by decide, by simp [seqIndex?], rfl, z, rfl, ?_⟩
          -- state[3]
          refine ⟨_, rfl, p, St4 q 0 (b + 1) c', 3, .int c', rfl, rfl, SqL.of (by rw [upd_ne hpq]; exact e1' _), rfl, _, _, rfl, rfl, .inl ⟨by omega, by omega⟩, _, rfl, _, _, rfl, rfl, _, _, rfl, rfl, .inl ⟨_, rfl, ?_⟩⟩
          refine ⟨_, _, rfl, rfl, (show (0 : Int) < 2147483647 by decide), _, rfl, p, St4 q 0 (b + 1) c', 3, 3, rfl, rfl, by rw [upd_ne hpq]; exact e1' _, rfl, ?_⟩
          -- state[1]
          refine ⟨_, rfl, _, _, rfl, rfl, ⟨by decide, by decide, by decide⟩, _, _, rfl, rfl, _, rfl, ?_⟩
          have habs : 0 ≤ (if z < 0 then -z else z) := by split <;> omega
          have last : ∀ v : Int, 0 ≤ v → (gSub (tVar 0) (tC (.int 1)) rSetL) (.int v) [some (.ref p), some (.int m), some (.int (if z < 0 then -z else z)), none, none]
              (upd (upd (upd H1 r (.lst [])) q (.lst (zs.map V.int))) p (.lst ((St4 q 0 (b + 1) c').set 3 (.int ((c' * 6151 + (if z < 0 then -z else z) + 5) % 2147483647))))) (fun σ' H' => (∃ (cell : Option V) (cs'' : List Int) (a' c' : Int), σ' = [some (.ref p), some (.int m), cell, none, none] ∧ H' p = some (.lst (St4 q a' (b + 1) c')) ∧ H' q = some (.lst (cs''.map V.int)) ∧
                0 ≤ a' ∧ 0 ≤ c' ∧ c' < 2147483647 ∧ But p q H H') ∧ (match H' q with | some (.lst xs) => xs.length | _ => 0) < (match H1 q with | some (.lst xs) => xs.length | _ => 0)) := by
            intro v hv
            refine ⟨_, rfl, p, St4 q 0 (b + 1) ((c' * 6151 + (if z < 0 then -z else z) + 5) % 2147483647), 1, 1, rfl, rfl, upd_same, rfl, ⟨_, zs, v, (c' * 6151 + (if z < 0 then -z else z) + 5) % 2147483647, rfl, upd_same, ?_, hv, Int.emod_nonneg _ (by decide), Int.emod_lt_of_pos _ (by decide), ?_⟩, ?_⟩
            · rw [upd_ne hpq.symm, upd_ne hpq.symm, upd_same]
            · exact (((B.trans (But.new hr0)).trans But.updq).trans But.updp).trans But.updp
            · rw [upd_ne hpq.symm, upd_ne hpq.symm, upd_same, e2]
              show (zs.map V.int).length < ((z :: zs).map V.int).length
              simp
          by_cases hz : (10 : Int) ^ (Int.toNat 18) ≤ (if z < 0 then -z else z)
          · exact if_true_of (decide_eq_true hz) ⟨_, rfl, last _ habs⟩
          · exact if_false_of (decide_eq_false hz) (last 0 (Int.le_refl 0))
      · refine if_false_of (by simp [ha0]) ?_
        exact if_false_of rfl ⟨cell, cs', a', c', rfl, e1, e2, g1, g2, g3, B⟩
    · rintro σ H1 Q1 Q2 hq ⟨v, hv, p', xs, i, u, y0, y1, f1, f2, f3, k', f4, f5⟩
      refine ⟨v, hv, p', xs, i, u, y0, y1, f1, f2, f3, k', f4, ?_⟩
      cases k' with
      | false => exact if_false_of rfl (hq _ _ (by rw [if_neg Bool.false_ne_true] at f5; exact f5))
      | true =>
        rw [if_pos rfl] at f5
        obtain ⟨v2, hv2, p2, xs2, i2, u2, y2, y3, w1, w2, w3, w4⟩ := f5
        refine if_true_of rfl ⟨v2, hv2, p2, xs2, i2, u2, y2, y3, w1, w2, w3, fun r hr => ?_⟩
        obtain ⟨d, e, z1, z2, z3, z4, kk, z5, z6⟩ := w4 r hr
        exact ⟨d, e, z1, z2, z3, z4, kk, z5, hq _ _ z6⟩
    · rintro σ H1 ⟨cell, cs', a', c', rfl, e1, e2, g1, g2, g3, B⟩
      refine ⟨_, rfl, p, _, 1, .int a', rfl, rfl, SqL.of e1, rfl, _, _, rfl, rfl, _, rfl, ?_⟩
      by_cases ha0 : 0 < a'
      · refine if_true_of (decide_eq_true ha0) ?_
        refine ⟨_, rfl, p, _, 1, .int a', rfl, rfl, SqL.of e1, rfl, .inl ⟨_, rfl, _, rfl, _, _, rfl, rfl, by omega, ?_⟩⟩
        refine ⟨_, rfl, p, _, 1, .int a', rfl, rfl, SqL.of e1, rfl, _, rfl, _, _, rfl, rfl, ⟨by omega, hm2⟩, _, rfl, p, St4 q a' (b + 1) c', 1, 1, rfl, rfl, e1, rfl, _, rfl, ?_⟩
        refine k _ _ (Int.emod_nonneg _ (by omega)) (Int.emod_lt_of_pos _ (by omega)) ⟨⟨cs', a' / m, b + 1, c', upd_same, by rw [upd_ne hpq.symm]; exact e2, Int.ediv_nonneg (by omega) (by omega), by omega, by omega, g2, g3⟩, hpq⟩ (B.trans But.updp)
      · refine if_false_of (decide_eq_false ha0) ?_
        refine ⟨_, rfl, p, _, 3, .int c', rfl, rfl, SqL.of e1, rfl, _, rfl, p, _, 2, .int (b + 1), rfl, rfl, SqL.of e1, rfl, _, _, rfl, rfl, .inl ⟨by decide, by decide⟩, _, _, rfl, rfl, _, _, rfl, rfl, _, _, rfl, rfl,
          ⟨by decide, by decide, nat_lt (by omega) (b := 18446744073709551616) (by omega) (by decide)⟩, .inl ⟨_, rfl, _, _, rfl, rfl, (show (0 : Int) < 2147483629 by decide), ?_⟩⟩
        have hx0 := Int.emod_nonneg ((c' + 7907 * (b + 1) + 104723) ^ (Int.toNat 5)) (show (2147483629 : Int) ≠ 0 by decide)
        have hx1 := Int.emod_lt_of_pos ((c' + 7907 * (b + 1) + 104723) ^ (Int.toNat 5)) (show (0 : Int) < 2147483629 by decide)
        generalize (c' + 7907 * (b + 1) + 104723) ^ (Int.toNat 5) % 2147483629 = mx at hx0 hx1 ⊢
        refine ⟨_, rfl, _, _, rfl, rfl, .inl ⟨by omega, by omega⟩, _, rfl, p, _, 2, .int (b + 1), rfl, rfl, SqL.of e1, rfl, _, _, rfl, rfl, .inl ⟨by decide, by decide⟩, _, _, rfl, rfl, _, _, rfl, rfl, _, _, rfl, rfl,
          ⟨by decide, by decide, nat_lt (by omega) (b := 18446744073709551616) (by omega) (by decide)⟩, .inl ⟨_, rfl, _, _, rfl, rfl, (show (0 : Int) < 1000000007 by decide), _, rfl, _, _, rfl, rfl, (show 0 < m by omega), ?_⟩⟩
        exact k _ _ (Int.emod_nonneg _ (by omega)) (Int.emod_lt_of_pos _ (by omega)) ⟨⟨cs', a', b + 1, c', e1, e2, g1, by omega, by omega, g2, g3⟩, hpq⟩ B
end
end K95

set_option Elab.async false
set_option linter.all false
set_option maxRecDepth 100000
set_option maxHeartbeats 4000000
namespace K95
open PySem PySem.Spec PyProof.Rows L2 EV HLC HCX

/-! ### _law_same -/
mutual
/-- v and v' stand for the same data, at most n deep -/
inductive RD (H : Hp) : Nat → V → V → Prop
  | non {n : Nat} : RD H n .non .non
  | bl {n : Nat} (b : Bool) : RD H n (.bl b) (.bl b)
  | int {n : Nat} (i : Int) : RD H n (.int i) (.int i)
  | str {n : Nat} (z : Str) : RD H n (.str z) (.str z)
  | lst {n : Nat} {a b : Addr} {xs ys : List V} (hz : xs.length ≤ 10000) : H a = some (.lst xs) → H b = some (.lst ys) → RDs H n xs ys → RD H (n + 1) (.ref a) (.ref b)
  | tup {n : Nat} {a b : Addr} {xs ys : List V} (hz : xs.length ≤ 10000) : H a = some (.tup xs) → H b = some (.tup ys) → RDs H n xs ys → RD H (n + 1) (.ref a) (.ref b)
  | dic {n : Nat} {a b : Addr} {ks : List Str} {xs ys : List V} : H a = some (.dK ((ks.map Sum.inr).zip xs)) → H b = some (.dK ((ks.map Sum.inr).zip ys)) → ks.Nodup → ks.length = xs.length → ks.length ≤ 10000 → RDs H 0 xs ys → RD H (n + 2) (.ref a) (.ref b)
inductive RDs (H : Hp) : Nat → List V → List V → Prop
  | nil {n : Nat} : RDs H n [] []
  | cons {n : Nat} {x y : V} {xs ys : List V} : RD H n x y → RDs H n xs ys → RDs H n (x :: xs) (y :: ys)
end
theorem RDs.len {H : Hp} {n : Nat} : ∀ {xs ys : List V}, RDs H n xs ys → xs.length = ys.length
  | _, _, .nil => rfl
  | _, _, .cons _ t => congrArg Nat.succ t.len
theorem RDs.get {H : Hp} {n : Nat} : ∀ {xs ys : List V} {i : Nat} {x y : V}, RDs H n xs ys → xs[i]? = some x → ys[i]? = some y → RD H n x y
  | _, _, _, _, _, .nil, e, _ => by simp at e
  | _, _, 0, _, _, .cons r _, e1, e2 => by simp at e1 e2; subst e1 e2; exact r
  | _, _, i + 1, _, _, .cons _ t, e1, e2 => t.get (i := i) (by simpa using e1) (by simpa using e2)
mutual
theorem RD.same {H H' : Hp} (s : Same H H') : ∀ {n : Nat} {x y : V}, RD H n x y → RD H' n x y
  | _, _, _, .non => .non
  | _, _, _, .bl b => .bl b
  | _, _, _, .int b => .int b
  | _, _, _, .str b => .str b
  | _, _, _, .lst hz h1 h2 t => .lst hz (s _ _ h1) (s _ _ h2) (RDs.same s t)
  | _, _, _, .tup hz h1 h2 t => .tup hz (s _ _ h1) (s _ _ h2) (RDs.same s t)
  | _, _, _, .dic h1 h2 h3 h4 h5 t => .dic (s _ _ h1) (s _ _ h2) h3 h4 h5 (RDs.same s t)
theorem RDs.same {H H' : Hp} (s : Same H H') : ∀ {n : Nat} {xs ys : List V}, RDs H n xs ys → RDs H' n xs ys
  | _, _, _, .nil => .nil
  | _, _, _, .cons r t => .cons (RD.same s r) (RDs.same s t)
end
mutual
theorem RD.up {H : Hp} : ∀ {n : Nat} {x y : V}, RD H n x y → RD H (n + 1) x y
  | _, _, _, .non => .non
  | _, _, _, .bl b => .bl b
  | _, _, _, .int b => .int b
  | _, _, _, .str b => .str b
  | _, _, _, .lst hz h1 h2 t => .lst hz h1 h2 t.up
  | _, _, _, .tup hz h1 h2 t => .tup hz h1 h2 t.up
  | _, _, _, .dic h1 h2 h3 h4 h5 t => .dic h1 h2 h3 h4 h5 t
theorem RDs.up {H : Hp} : ∀ {n : Nat} {xs ys : List V}, RDs H n xs ys → RDs H (n + 1) xs ys
  | _, _, _, .nil => .nil
  | _, _, _, .cons r t => .cons r.up t.up
end
theorem RD.le {H : Hp} {x y : V} {m : Nat} (h : RD H m x y) : ∀ k, RD H (m + k) x y
  | 0 => h
  | k + 1 => (RD.le h k).up
theorem RD.flat {H H' : Hp} {x y : V} (h : RD H 0 x y) : RD H' 0 x y := by
  cases h with
  | non => exact .non
  | bl b => exact .bl b
  | int b => exact .int b
  | str b => exact .str b
theorem rds_strs {H : Hp} : ∀ ks : List Str, RDs H 0 (ks.map V.str) (ks.map V.str)
  | [] => .nil
  | k :: ks => .cons (.str k) (rds_strs ks)
def spSame (n : Nat) : Sp := fun vs H Q _ => ∃ x y, vs = [x, y] ∧ RD H n x y ∧ ∀ H', Same H H' → Q (.bl true) H'
abbrev N_law_same : List Str := ["found", "due", "mine", "theirs", "key"]
theorem all_true {n : Nat} : ((List.replicate n true).all id) = true := by
  induction n with
  | zero => rfl
  | succ n ih => simp [List.replicate_succ, ih]
theorem rep_map {n : Nat} : (List.replicate n true).map V.bl = List.replicate n (V.bl true) := by simp
theorem zip_get {ks : List Str} {xs : List V} {i : Nat} {k : Str} (hk : ks[i]? = some k) (hl : ks.length = xs.length) : ∃ v, xs[i]? = some v ∧ ((ks.map Sum.inr).zip xs)[i]? = some ((Sum.inr k : Key), v) := by
  have hi : i < ks.length := (List.getElem?_eq_some_iff.mp hk).1
  refine ⟨xs[i], List.getElem?_eq_getElem (by omega), ?_⟩
  rw [List.getElem?_zip_eq_some]
  exact ⟨by rw [List.getElem?_map, hk]; rfl, List.getElem?_eq_getElem (by omega)⟩
theorem zip_val : ∀ {ks : List Str} {xs : List V} {i : Nat} {k : Str} {v : V}, ks.Nodup → ks[i]? = some k → xs[i]? = some v → valV ((ks.map Sum.inr).zip xs) (Sum.inr k : Key) = some v
  | [], _, _, _, _, _, e, _ => by simp at e
  | _ :: _, [], _, _, _, _, _, e => by simp at e
  | a :: ks, x :: xs, 0, k, v, _, e1, e2 => by
    simp at e1 e2
    subst e1 e2
    simp [valV]
  | a :: ks, x :: xs, i + 1, k, v, nd, e1, e2 => by
    have e1' : ks[i]? = some k := by simpa using e1
    have hm : k ∈ ks := List.mem_of_getElem? e1'
    have hne : ¬ (Sum.inr a : Key) = Sum.inr k := fun z => (List.nodup_cons.mp nd).1 (by cases z; exact hm)
    have ih := zip_val (i := i) (xs := xs) (List.nodup_cons.mp nd).2 e1' (by simpa using e2)
    unfold valV at ih ⊢
    simp only [List.map_cons, List.zip_cons_cons]
    rw [List.find?_cons_of_neg (by simpa using hne)]
    exact ih
theorem zip_keys : ∀ {ks : List Str} {xs : List V}, ks.length = xs.length → ((ks.map Sum.inr).zip xs).map (fun kv : Key × V => kV kv.1) = ks.map V.str
  | [], _, _ => rfl
  | _ :: _, [], h => by simp at h
  | k :: ks, x :: xs, h => by
    have ih := zip_keys (ks := ks) (xs := xs) (by simpa using h)
    simp only [List.map_cons, List.zip_cons_cons]
    exact congrArg (V.str k :: ·) ih
theorem zip_len {ks : List Str} {xs : List V} (h : ks.length = xs.length) : ((ks.map (Sum.inr : Str → Key)).zip xs).length = ks.length := by simp [h]
theorem kit2 {K : PySem.W.Frag} {T0 : String} {b1 b2 : Bool} (h1 : kitB T0 "list" = some b1) (h2 : kitB T0 "tuple" = some b2) : PySem.W.kitAny K (.type T0) [.type "list", .type "tuple"] = some (b1 || b2) := by
  refine kitAny_cons (kit_ty h1) (fun e => ?_) (fun e => by rw [e]; rfl)
  subst e
  exact kitAny_cons (kit_ty h2) (fun e => by subst e; rfl) (fun e => by rw [e]; rfl)
theorem cls2 : Paired ClsV [.ty "list", .ty "tuple"] [.type "list", .type "tuple"] := .cons (.ty _) (.cons (.ty _) .nil)
/-- the types of what stands for data -/
inductive TyS (H : Hp) : V → String → Prop
  | non : TyS H .non "NoneType"
  | bl (b : Bool) : TyS H (.bl b) "bool"
  | int (b : Int) : TyS H (.int b) "int"
  | str (b : Str) : TyS H (.str b) "str"
  | lst {a : Addr} {xs : List V} (h : H a = some (.lst xs)) : TyS H (.ref a) "list"
  | tup {a : Addr} {xs : List V} (h : H a = some (.tup xs)) : TyS H (.ref a) "tuple"
  | dic {a : Addr} {kvs : List (Key × V)} (h : H a = some (.dK kvs)) : TyS H (.ref a) "dict"
theorem TyS.x {K : PySem.W.Frag} {H : Hp} {v : V} {T : String} (h : TyS H v T) : TyX K H v (.type T) := by
  cases h with
  | non => exact .base .non
  | bl b => exact .base (.bl b)
  | int b => exact .base (.int b)
  | str b => exact .base (.str b)
  | lst h => exact .base (.lst h)
  | tup h => exact .base (.tup h)
  | dic h => exact .base (.dK h)
theorem TyS.same {H H' : Hp} (s : Same H H') {v : V} {T : String} (h : TyS H v T) : TyS H' v T := by
  cases h with
  | non => exact .non
  | bl b => exact .bl b
  | int b => exact .int b
  | str b => exact .str b
  | lst h => exact .lst (s _ _ h)
  | tup h => exact .tup (s _ _ h)
  | dic h => exact .dic (s _ _ h)
def spRec (n : Nat) : Sp := match n with
  | 0 => fun _ _ _ _ => False
  | m + 1 => spSame m
theorem walk_zipT {K : PySem.W.Frag} {a b : Addr} {us ws : List V} {n : Nat} (e : n = min us.length ws.length) : Walk (RZ.ItzT K a b) n (fun H => SqT K H a us ∧ SqT K H b ws) (YPair (fun i => us[i]?) (fun i => ws[i]?)) := by
  subst e
  refine ⟨fun i _ hi z => ?_, fun _ z => ⟨us, ws, z.1, z.2, by omega⟩, fun i H v H' _ z y => ?_⟩
  · exact ⟨us, ws, us[i]'(by omega), ws[i]'(by omega), z.1, z.2, List.getElem?_eq_getElem _, List.getElem?_eq_getElem _⟩
  · obtain ⟨T, c, d, g1, g2, g3, g4, g5⟩ := y
    exact ⟨T, c, d, g1, g2, g3, g4 us z.1, g5 ws z.2⟩
structure TSame (mg : Str → Option Value) : Prop where
  isi : mg "isinstance" = none
  lst : mg "list" = none
  tup : mg "tuple" = none
  dct : mg "dict" = none
  len : mg "len" = none
  all : mg "all" = none
  zip : mg "zip" = none
  bool : mg "bool" = none
  int : mg "int" = none
  str : mg "str" = none
section
variable {P : Program} {w : World} {K : PySem.W.Frag} {mg : Str → Option Value} {base : Heap}
theorem scSame : FnScope N_law_same ["found", "due"] (defScope s_law_same) := ⟨rfl, rfl, rfl, by decide +kernel, rfl, by decide +kernel, by decide +kernel⟩
theorem ok_same {f : Addr} {fd : FuncData} (F : FnP K "_law_same" s_law_same f fd) (T : TSame mg) (gS : mg "_law_same" = some (.ref f)) (bS : L2.Binds K fd ["found", "due"] []) : ∀ n : Nat, FnOk P w K mg base CX0 (n + 1) f fd ["found", "due"] (spSame n) := by
  intro n
  induction n using Nat.strongRecOn with
  | ind n ih =>
  refine F.ok scSame (fun vs H Q E h => ?_) (fun cdv A outer s H vs Q E hr h => ?_)
  · obtain ⟨x, y, rfl, _⟩ := h
    rfl
  · obtain ⟨x, y, rfl, hR, k⟩ := h
    have G : FnOk P w K mg base CX0 n f fd ["found", "due"] (spRec n) := by
      cases n with
      | zero => exact ⟨fun _ _ _ _ z => z.elim, fun _ _ _ _ _ _ _ _ _ _ _ _ _ z => z.elim⟩
      | succ m => exact ih m (Nat.lt_succ_self m)
    have hu := hu_of hr
    have kS : PySem.W.keepIn K (.ref f) = true := F.kp
    refine ⟨_, PSs.nox (pss_cons (ps_if (pt_val (pe_callB call_isiT (by rfl) T.isi (by decide +kernel) (pa_cons (pv 1) (pa_cons (pe_tup (pa_cons (pe_bltn (v := .ty "list") (by rfl) T.lst (by decide +kernel) rfl) (pa_cons (pe_bltn (v := .ty "tuple") (by rfl) T.tup (by decide +kernel) rfl) pa_nil))) pa_nil)))) (pss_cons (ps_if (PW.pt (pw_or (pt_cmpR op_ne (pe_callB call_isi (by rfl) T.isi (by decide +kernel) (pa_cons (pv 0) (pa_cons (pe_bltn (v := .ty "list") (by rfl) T.lst (by decide +kernel) rfl) pa_nil))) (pe_callB call_isi (by rfl) T.isi (by decide +kernel) (pa_cons (pv 1) (pa_cons (pe_bltn (v := .ty "list") (by rfl) T.lst (by decide +kernel) rfl) pa_nil))) (nomark _)) (pw_or1 (pt_cmpR op_ne (pe_callB call_isi (by rfl) T.isi (by decide +kernel) (pa_cons (pv 0) (pa_cons (pe_bltn (v := .ty "tuple") (by rfl) T.tup (by decide +kernel) rfl) pa_nil))) (pe_callB call_isi (by rfl) T.isi (by decide +kernel) (pa_cons (pv 1) (pa_cons (pe_bltn (v := .ty "tuple") (by rfl) T.tup (by decide +kernel) rfl) pa_nil))) (nomark _))))) (pss_one (ps_ret pe_bl)) pss_nil) (pss_one (ps_ret (pe_and (pe_cmpR op_eq (pe_callB call_len (by rfl) T.len (by decide +kernel) (pa_cons (pv 0) pa_nil)) (pe_callB call_len (by rfl) T.len (by decide +kernel) (pa_cons (pv 1) pa_nil)) (nomark _)) (pe_one (pe_callB (cr_all rfl) (by rfl) T.all (by decide +kernel) (pa_cons (pe_lc (own := [("mine", 2), ("theirs", 3)]) (g := gTup K 2 (gCons (gName 2) (gCons (gName 3) gNil))) (tt := tYes) (by rfl) scSame.nd (RZ.pi_zipA (by rfl) T.zip (pa_cons (pv 0) (pa_cons (pv 1) pa_nil))) (blkOk_by (own := [("mine", 2), ("theirs", 3)]) (N := N_law_same) (sc := defScope s_law_same) (by decide +kernel)) (fun _ _ _ _ _ => (pg_tup (by rfl) (pgs_cons (pg_name (i := 2) scSame.nd rfl (Or.inl rfl)) (pgs_cons (pg_name (i := 3) scSame.nd rfl (Or.inl rfl)) pgs_nil)))) (fun _ _ _ _ _ => pts_nil) (fun _ _ _ _ _ => (pe_call G hr rfl gS kS bS .nil pass0 (pa_cons (pv 2) (pa_cons (pv 3) pa_nil))))) pa_nil))))))) pss_nil) (pss_cons (ps_if (pt_val (pe_callB call_isi (by rfl) T.isi (by decide +kernel) (pa_cons (pv 1) (pa_cons (pe_bltn (v := .ty "dict") (by rfl) T.dct (by decide +kernel) rfl) pa_nil)))) (pss_cons (ps_if (PW.pt (pw_or (pt_not (pt_val (pe_callB call_isi (by rfl) T.isi (by decide +kernel) (pa_cons (pv 0) (pa_cons (pe_bltn (v := .ty "dict") (by rfl) T.dct (by decide +kernel) rfl) pa_nil))))) (pw_or1 (pt_not (pt_val (pe_call G hr rfl gS kS bS .nil pass0 (pa_cons (pe_callTy (call_list_dK rfl) (by rfl) T.lst (by decide +kernel) (pa_cons (pv 0) pa_nil)) (pa_cons (pe_callTy (call_list_dK rfl) (by rfl) T.lst (by decide +kernel) (pa_cons (pv 1) pa_nil)) pa_nil)))))))) (pss_one (ps_ret pe_bl)) pss_nil) (pss_one (ps_ret (pe_callB (cr_all rfl) (by rfl) T.all (by decide +kernel) (pa_cons (pe_lock (pe_lc (own := [("key", 4)]) (g := gName 4) (tt := tYes) (by rfl) scSame.nd (pi_keys (pv 1)) (blkOk_by (own := [("key", 4)]) (N := N_law_same) (sc := defScope s_law_same) (by decide +kernel)) (fun _ _ _ _ _ => (pg_name (i := 4) scSame.nd rfl (Or.inl rfl))) (fun _ _ _ _ _ => pts_nil) (fun _ _ _ _ _ => (pe_call G hr rfl gS kS bS .nil pass0 (pa_cons (pe_dget hu (pv 0) (pv 4) (fun _ _ => rfl)) (pa_cons (pe_dget hu (pv 1) (pv 4) (fun _ _ => rfl)) pa_nil)))))) pa_nil))))) pss_nil) (pss_cons (ps_if (pt_cmpR op_isN (pv 1) pe_non (nomark _)) (pss_one (ps_ret (pe_cmpR op_isN (pv 0) pe_non (nomark _)))) pss_nil) (pss_cons (ps_if (pt_val (pe_callB call_isi (by rfl) T.isi (by decide +kernel) (pa_cons (pv 1) (pa_cons (pe_bltn (v := .ty "bool") (by rfl) T.bool (by decide +kernel) rfl) pa_nil)))) (pss_one (ps_ret (pe_and (pe_callB call_isi (by rfl) T.isi (by decide +kernel) (pa_cons (pv 0) (pa_cons (pe_bltn (v := .ty "bool") (by rfl) T.bool (by decide +kernel) rfl) pa_nil))) (pe_one (pe_cmpR op_eq (pv 0) (pv 1) (nomark _)))))) pss_nil) (pss_cons (ps_if (pt_val (pe_callB call_isi (by rfl) T.isi (by decide +kernel) (pa_cons (pv 1) (pa_cons (pe_bltn (v := .ty "int") (by rfl) T.int (by decide +kernel) rfl) pa_nil)))) (pss_one (ps_ret (pe_and (pe_callB call_isi (by rfl) T.isi (by decide +kernel) (pa_cons (pv 0) (pa_cons (pe_bltn (v := .ty "int") (by rfl) T.int (by decide +kernel) rfl) pa_nil))) (pe_and (pe_not (pe_callB call_isi (by rfl) T.isi (by decide +kernel) (pa_cons (pv 0) (pa_cons (pe_bltn (v := .ty "bool") (by rfl) T.bool (by decide +kernel) rfl) pa_nil)))) (pe_one (pe_cmpR op_eq (pv 0) (pv 1) (nomark _))))))) pss_nil) (pss_one (ps_ret (pe_and (pe_callB call_isi (by rfl) T.isi (by decide +kernel) (pa_cons (pv 0) (pa_cons (pe_bltn (v := .ty "str") (by rfl) T.str (by decide +kernel) rfl) pa_nil))) (pe_one (pe_cmpR op_eq (pv 0) (pv 1) (nomark _))))))))))), ?_⟩
    have two : (2 : Nat) ≤ sizeLine := by decide
    cases hR with
    | non =>
      refine ⟨_, rfl, two, fun tp htp => ⟨_, _, _, _, _, _, rfl, upd_same, cls2, (TyS.x .non), kit2 (b1 := false) (b2 := false) (by decide +kernel) (by decide +kernel), _, rfl, if_false_of rfl ?_⟩⟩
      refine ⟨_, rfl, ⟨_, _, _, _, false, rfl, .ty _, (TyS.x .non), kit_ty (by decide +kernel), _, rfl, if_false_of rfl ?_⟩⟩
      refine ⟨_, rfl, rfl, _, rfl, if_true_of rfl ⟨_, rfl, rfl, ?_⟩⟩
      exact k _ (Same.new htp)
    | bl b =>
      refine ⟨_, rfl, two, fun tp htp => ⟨_, _, _, _, _, _, rfl, upd_same, cls2, (TyS.x (.bl b)), kit2 (b1 := false) (b2 := false) (by decide +kernel) (by decide +kernel), _, rfl, if_false_of rfl ?_⟩⟩
      refine ⟨_, rfl, ⟨_, _, _, _, false, rfl, .ty _, (TyS.x (.bl b)), kit_ty (by decide +kernel), _, rfl, if_false_of rfl ?_⟩⟩
      refine ⟨_, rfl, rfl, _, rfl, if_false_of rfl ?_⟩
      refine ⟨_, rfl, ⟨_, _, _, _, true, rfl, .ty _, (TyS.x (.bl b)), kit_ty (by decide +kernel), _, rfl, if_true_of rfl ?_⟩⟩
      refine ⟨_, rfl, ⟨_, _, _, _, true, rfl, .ty _, (TyS.x (.bl b)), kit_ty (by decide +kernel), _, rfl, if_true_of rfl ?_⟩⟩
      refine ⟨_, rfl, _, rfl, rfl, ?_⟩
      rw [decide_eq_true rfl]
      exact k _ (Same.new htp)
    | int b =>
      refine ⟨_, rfl, two, fun tp htp => ⟨_, _, _, _, _, _, rfl, upd_same, cls2, (TyS.x (.int b)), kit2 (b1 := false) (b2 := false) (by decide +kernel) (by decide +kernel), _, rfl, if_false_of rfl ?_⟩⟩
      refine ⟨_, rfl, ⟨_, _, _, _, false, rfl, .ty _, (TyS.x (.int b)), kit_ty (by decide +kernel), _, rfl, if_false_of rfl ?_⟩⟩
      refine ⟨_, rfl, rfl, _, rfl, if_false_of rfl ?_⟩
      refine ⟨_, rfl, ⟨_, _, _, _, false, rfl, .ty _, (TyS.x (.int b)), kit_ty (by decide +kernel), _, rfl, if_false_of rfl ?_⟩⟩
      refine ⟨_, rfl, ⟨_, _, _, _, true, rfl, .ty _, (TyS.x (.int b)), kit_ty (by decide +kernel), _, rfl, if_true_of rfl ?_⟩⟩
      refine ⟨_, rfl, ⟨_, _, _, _, true, rfl, .ty _, (TyS.x (.int b)), kit_ty (by decide +kernel), _, rfl, if_true_of rfl ?_⟩⟩
      refine ⟨_, rfl, ⟨_, _, _, _, false, rfl, .ty _, (TyS.x (.int b)), kit_ty (by decide +kernel), _, rfl, _, rfl, if_true_of rfl ?_⟩⟩
      refine ⟨_, rfl, _, rfl, rfl, ?_⟩
      rw [decide_eq_true rfl]
      exact k _ (Same.new htp)
    | str b =>
      refine ⟨_, rfl, two, fun tp htp => ⟨_, _, _, _, _, _, rfl, upd_same, cls2, (TyS.x (.str b)), kit2 (b1 := false) (b2 := false) (by decide +kernel) (by decide +kernel), _, rfl, if_false_of rfl ?_⟩⟩
      refine ⟨_, rfl, ⟨_, _, _, _, false, rfl, .ty _, (TyS.x (.str b)), kit_ty (by decide +kernel), _, rfl, if_false_of rfl ?_⟩⟩
      refine ⟨_, rfl, rfl, _, rfl, if_false_of rfl ?_⟩
      refine ⟨_, rfl, ⟨_, _, _, _, false, rfl, .ty _, (TyS.x (.str b)), kit_ty (by decide +kernel), _, rfl, if_false_of rfl ?_⟩⟩
      refine ⟨_, rfl, ⟨_, _, _, _, false, rfl, .ty _, (TyS.x (.str b)), kit_ty (by decide +kernel), _, rfl, if_false_of rfl ?_⟩⟩
      refine ⟨_, rfl, ⟨_, _, _, _, true, rfl, .ty _, (TyS.x (.str b)), kit_ty (by decide +kernel), _, rfl, if_true_of rfl ?_⟩⟩
      refine ⟨_, rfl, _, rfl, rfl, ?_⟩
      rw [decide_eq_true rfl]
      exact k _ (Same.new htp)
    | @lst m a b xs ys hz h1 h2 hs =>
      refine ⟨_, rfl, two, fun tp htp => ⟨_, _, _, _, _, _, rfl, upd_same, cls2, (TyS.x (.lst (Same.new htp _ _ h2))), kit2 (b1 := true) (b2 := false) (by decide +kernel) (by decide +kernel), _, rfl, if_true_of rfl ?_⟩⟩
      have g1 := Same.new (o := .tup [.ty "list", .ty "tuple"]) htp _ _ h1
      have g2 := Same.new (o := .tup [.ty "list", .ty "tuple"]) htp _ _ h2
      have s0 : Same H (upd H tp (.tup [.ty "list", .ty "tuple"])) := Same.new htp
      generalize upd H tp (.tup [.ty "list", .ty "tuple"]) = H0 at g1 g2 s0 ⊢
      refine ⟨_, rfl, ⟨_, _, _, _, true, rfl, .ty _, (TyS.x (.lst g1)), kit_ty (by decide +kernel), _, rfl, ⟨_, _, _, _, true, rfl, .ty _, (TyS.x (.lst g2)), kit_ty (by decide +kernel), rfl, _, rfl, if_false_of rfl ?_⟩⟩⟩
      refine ⟨_, rfl, ⟨_, _, _, _, false, rfl, .ty _, (TyS.x (.lst g1)), kit_ty (by decide +kernel), _, rfl, ⟨_, _, _, _, false, rfl, .ty _, (TyS.x (.lst g2)), kit_ty (by decide +kernel), rfl, _, rfl, if_false_of rfl ?_⟩⟩⟩
      refine ⟨_, rfl, _, _, rfl, .inl ⟨_, SqL.of g1, rfl⟩, _, rfl, _, _, rfl, .inl ⟨_, SqL.of g2, rfl⟩, rfl, _, rfl, if_true_of (by rw [hs.len]; simp) ?_⟩
      refine ⟨_, rfl, _, rfl, a, b, xs, ys, rfl, .inl ⟨SqL.of g1, SqL.of g2, fun D hD => ?_⟩⟩
      refine lc_it (walk_zip (xs := xs) (ys := ys) (n := xs.length) (by rw [hs.len]; simp)) (fun i H' => Same H0 H' ∧ H' D = some (.lst (List.replicate i (.bl true)))) ⟨Same.new hD, upd_same⟩ (fun i H' _ z => ⟨SqL.of (z.1 _ _ g1), SqL.of (z.1 _ _ g2)⟩) ?_ ?_
      · rintro i v H1 H2 hi ⟨sH, hDD⟩ ⟨T, x, y, rfl, hT, rfl, ex, ey⟩
        refine ⟨T, [x, y], rfl, SqT.of upd_same, rfl, x, [y], rfl, y, [], rfl, rfl, rfl, ?_⟩
        have s2 : Same H (upd H1 T (.tup [x, y])) := (s0.trans sH).trans (Same.new hT)
        refine ⟨_, rfl, _, rfl, x, y, rfl, RD.same s2 (hs.get ex ey), fun H3 s3 => ?_⟩
        refine ⟨List.replicate i (.bl true), s3 _ _ (Same.new hT _ _ hDD), ?_, ?_, ?_⟩
        · rw [List.length_replicate, sizeLine_eq]
          omega
        · intro c o e
          have hne : c ≠ D := ne_of_none e hD
          rw [upd_ne hne]
          exact s3 _ _ (Same.new hT _ _ (sH _ _ e))
        · rw [upd_same, ← List.replicate_succ']
      · rintro H1 ⟨sH, hDD⟩
        refine ⟨D, List.replicate xs.length true, rfl, SqL.of (by rw [rep_map]; exact hDD), ?_⟩
        rw [all_true]
        exact k _ (s0.trans sH)
    | @tup m a b xs ys hz h1 h2 hs =>
      refine ⟨_, rfl, two, fun tp htp => ⟨_, _, _, _, _, _, rfl, upd_same, cls2, (TyS.x (.tup (Same.new htp _ _ h2))), kit2 (b1 := false) (b2 := true) (by decide +kernel) (by decide +kernel), _, rfl, if_true_of rfl ?_⟩⟩
      have g1 := Same.new (o := .tup [.ty "list", .ty "tuple"]) htp _ _ h1
      have g2 := Same.new (o := .tup [.ty "list", .ty "tuple"]) htp _ _ h2
      have s0 : Same H (upd H tp (.tup [.ty "list", .ty "tuple"])) := Same.new htp
      generalize upd H tp (.tup [.ty "list", .ty "tuple"]) = H0 at g1 g2 s0 ⊢
      refine ⟨_, rfl, ⟨_, _, _, _, false, rfl, .ty _, (TyS.x (.tup g1)), kit_ty (by decide +kernel), _, rfl, ⟨_, _, _, _, false, rfl, .ty _, (TyS.x (.tup g2)), kit_ty (by decide +kernel), rfl, _, rfl, if_false_of rfl ?_⟩⟩⟩
      refine ⟨_, rfl, ⟨_, _, _, _, true, rfl, .ty _, (TyS.x (.tup g1)), kit_ty (by decide +kernel), _, rfl, ⟨_, _, _, _, true, rfl, .ty _, (TyS.x (.tup g2)), kit_ty (by decide +kernel), rfl, _, rfl, if_false_of rfl ?_⟩⟩⟩
      refine ⟨_, rfl, _, _, rfl, .inr ⟨_, SqT.of g1, rfl⟩, _, rfl, _, _, rfl, .inr ⟨_, SqT.of g2, rfl⟩, rfl, _, rfl, if_true_of (by rw [hs.len]; simp) ?_⟩
      refine ⟨_, rfl, _, rfl, a, b, xs, ys, rfl, .inr ⟨SqT.of g1, SqT.of g2, fun D hD => ?_⟩⟩
      refine lc_it (walk_zipT (us := xs) (ws := ys) (n := xs.length) (by rw [hs.len]; simp)) (fun i H' => Same H0 H' ∧ H' D = some (.lst (List.replicate i (.bl true)))) ⟨Same.new hD, upd_same⟩ (fun i H' _ z => ⟨SqT.of (z.1 _ _ g1), SqT.of (z.1 _ _ g2)⟩) ?_ ?_
      · rintro i v H1 H2 hi ⟨sH, hDD⟩ ⟨T, x, y, rfl, hT, rfl, ex, ey⟩
        refine ⟨T, [x, y], rfl, SqT.of upd_same, rfl, x, [y], rfl, y, [], rfl, rfl, rfl, ?_⟩
        have s2 : Same H (upd H1 T (.tup [x, y])) := (s0.trans sH).trans (Same.new hT)
        refine ⟨_, rfl, _, rfl, x, y, rfl, RD.same s2 (hs.get ex ey), fun H3 s3 => ?_⟩
        refine ⟨List.replicate i (.bl true), s3 _ _ (Same.new hT _ _ hDD), ?_, ?_, ?_⟩
        · rw [List.length_replicate, sizeLine_eq]
          omega
        · intro c o e
          have hne : c ≠ D := ne_of_none e hD
          rw [upd_ne hne]
          exact s3 _ _ (Same.new hT _ _ (sH _ _ e))
        · rw [upd_same, ← List.replicate_succ']
      · rintro H1 ⟨sH, hDD⟩
        refine ⟨D, List.replicate xs.length true, rfl, SqL.of (by rw [rep_map]; exact hDD), ?_⟩
        rw [all_true]
        exact k _ (s0.trans sH)
    | @dic m a b ks xs ys h1 h2 nd hl hz hs =>
      have hl2 : ks.length = ys.length := hl.trans hs.len
      refine ⟨_, rfl, two, fun tp htp => ⟨_, _, _, _, _, _, rfl, upd_same, cls2, TyS.x (.dic (Same.new htp _ _ h2)), kit2 (b1 := false) (b2 := false) (by decide +kernel) (by decide +kernel), _, rfl, if_false_of rfl ?_⟩⟩
      have g1 := Same.new (o := .tup [.ty "list", .ty "tuple"]) htp _ _ h1
      have g2 := Same.new (o := .tup [.ty "list", .ty "tuple"]) htp _ _ h2
      have s0 : Same H (upd H tp (.tup [.ty "list", .ty "tuple"])) := Same.new htp
      generalize upd H tp (.tup [.ty "list", .ty "tuple"]) = H0 at g1 g2 s0 ⊢
      refine ⟨_, rfl, ⟨_, _, _, _, true, rfl, .ty _, TyS.x (.dic g2), kit_ty (by decide +kernel), _, rfl, if_true_of rfl ?_⟩⟩
      refine ⟨_, rfl, ⟨_, _, _, _, true, rfl, .ty _, TyS.x (.dic g1), kit_ty (by decide +kernel), _, rfl, if_false_of rfl ?_⟩⟩
      refine ⟨_, rfl, _, _, rfl, g1, fun l1 hn1 => ⟨_, rfl, _, _, rfl, (by rw [upd_ne (ne_of_none g2 hn1)]; exact g2), fun l2 hn2 => ?_⟩⟩
      rw [zip_keys hl, zip_keys hl2]
      rw [zip_keys hl] at hn2
      have hn12 : l1 ≠ l2 := ne_of_none upd_same hn2
      have k1 : upd (upd H0 l1 (.lst (ks.map V.str))) l2 (.lst (ks.map V.str)) l1 = some (.lst (ks.map V.str)) := by rw [upd_ne hn12, upd_same]
      refine ⟨_, _, rfl, RD.le (m := 1) (RD.lst (by simpa using hz) k1 upd_same (rds_strs ks)) m |> fun z => ?_, fun H2 s2 => ⟨_, rfl, if_false_of rfl ?_⟩⟩
      · rw [Nat.add_comm m 1]; exact z
      have s1 : Same H0 H2 := ((Same.new hn1).trans (Same.new hn2)).trans s2
      have q1 := s1 _ _ g1
      have q2 := s1 _ _ g2
      refine ⟨b, _, q2, trivial, fun od => ⟨_, rfl, b, od, rfl, .inl ⟨_, upd_same, fun D hD => ?_⟩⟩⟩
      have hDb : D ≠ b := fun e => by rw [e, upd_same] at hD; cases hD
      refine lc_it walk_keys (fun i H' => Same (upd H2 b (.frz od (.dK ((ks.map Sum.inr).zip ys)))) H' ∧ H' D = some (.lst (List.replicate i (.bl true)))) ⟨Same.new hD, upd_same⟩ (fun i H' _ z => z.1 _ _ upd_same) ?_ ?_
      · rintro i v H3 H4 hi ⟨sH, hDD⟩ ⟨rfl, kk, v0, ek, rfl⟩
        have hi' : i < ks.length := by rw [zip_len hl2] at hi; exact hi
        obtain ⟨vy, ey, ez⟩ := zip_get (List.getElem?_eq_getElem hi') hl2
        obtain ⟨vx, ex, _⟩ := zip_get (List.getElem?_eq_getElem hi') hl
        rw [ez] at ek
        cases ek
        have hb : H4 b = some (.frz od (.dK ((ks.map Sum.inr).zip ys))) := sH _ _ upd_same
        have ha : Rd H4 a (.dK ((ks.map Sum.inr).zip xs)) := by
          by_cases hab : a = b
          · subst hab
            have e := HO.dK.inj (Option.some.inj (q1.symm.trans q2))
            exact .inr ⟨od, by rw [e]; exact hb⟩
          · exact .inl (sH _ _ (by rw [upd_ne hab]; exact q1))
        refine ⟨rfl, ?_⟩
        refine ⟨_, rfl, _, rfl, a, vx, rfl, .inl ⟨_, Sum.inr ks[i], ha, rfl, (zip_val nd (List.getElem?_eq_getElem hi') ex).symm⟩, ?_⟩
        refine ⟨_, rfl, _, rfl, b, v0, rfl, .inl ⟨_, Sum.inr ks[i], .inr ⟨od, hb⟩, rfl, (zip_val nd (List.getElem?_eq_getElem hi') ey).symm⟩, ?_⟩
        refine ⟨vx, v0, rfl, ?_, fun H5 s5 => ?_⟩
        · have z := RD.le (RD.flat (H' := H4) (hs.get ex ey)) (m + 1)
          rw [Nat.zero_add] at z
          exact z
        · refine ⟨List.replicate i (.bl true), s5 _ _ hDD, ?_, ?_, ?_⟩
          · rw [List.length_replicate, sizeLine_eq]
            omega
          · intro c o e
            rw [upd_ne (ne_of_none e hD)]
            exact s5 _ _ (sH _ _ e)
          · rw [upd_same, ← List.replicate_succ']
      · rintro H3 ⟨sH, hDD⟩
        refine ⟨sH _ _ upd_same, D, List.replicate ks.length true, rfl, SqL.of ?_, ?_⟩
        · rw [rep_map, upd_ne hDb, hDD, zip_len hl2]
        · rw [all_true]
          refine k _ fun c o e => ?_
          by_cases hc : c = b
          · subst hc
            rw [h2] at e
            cases e
            exact upd_same
          · rw [upd_ne hc]
            exact sH _ _ (by rw [upd_ne hc]; exact s1 _ _ (s0 _ _ e))
end
end K95

set_option Elab.async false
set_option linter.all false
set_option maxRecDepth 100000
set_option maxHeartbeats 4000000
namespace K95
open PySem PySem.Spec PyProof.Rows L2 EV HLC HCX

/-! ### the classes of errors -/
def kindN : List Str := ["BadChanges", "BadPrices", "BadUnsure", "BadPlaces", "BadAsks", "NotApart", "BadStrategy", "BadEdit", "BadDesk", "BadDeskText", "NothingToUndo", "NothingToRedo"]
def kb (x y : Str) : Bool := decide (x = y) || decide (y = "DeedError")
structure TCls (P : Program) (w : World) (K : PySem.W.Frag) (mg : Str → Option Value) (base : Heap) : Prop where
  ecl : ∀ x ∈ allN, ECls K (CA K x)
  glo : ∀ x ∈ allN, mg x = some (.ref (CA K x))
  kit : ∀ x ∈ allN, ∀ y ∈ allN, PySem.W.kitOne K (.ref (CA K x)) (.ref (CA K y)) = some (kb x y)
  kitV : ∀ x ∈ allN, PySem.W.kitOne K (.ref (CA K x)) (.type "ValueError") = some true
  kitN : ∀ x ∈ allN, ∀ T ∈ (["KeyError", "IndexError", "TypeError"] : List String), PySem.W.kitOne K (.ref (CA K x)) (.type T) = some false
  ini : ∀ p ∈ iniN, EIni P w K mg base p.1 (CA K p.1) p.2
  bare : ∀ x ∈ bareN, PySem.W.excIn K (CA K x) He.veBase "ValueError.__new__" = true ∧ PySem.W.keepIn K (.ref (CA K x)) = true
def tIs (K : PySem.W.Frag) (y : Str) : TE := tCB (rIsV K) (tCons (tVar 0) (tCons (tC (.ref (CA K y))) tNil))
def tIsL (K : PySem.W.Frag) (L : List Str) : TA := L.foldr (fun y t => tCons (tIs K y) t) tNil
section
variable {P : Program} {w : World} {K : PySem.W.Frag} {mg : Str → Option Value} {base : Heap}
theorem is1 (T : TCls P w K mg base) {x y : Str} (hx : x ∈ allN) (hy : y ∈ allN) {a : Addr} {σ : L2.St} {H : Hp} {Q : VK} (e : σ[0]? = some (some (.ref a))) (hE : ExI H a (CA K x)) (q : Q (.bl (kb x y)) H) : tIs K y σ H Q :=
  ⟨_, e, a, CA K x, _, _, _, rfl, T.ecl x hx, hE, .own _, T.kit x hx y hy, q⟩
theorem isL (T : TCls P w K mg base) {x : Str} (hx : x ∈ allN) {a : Addr} {σ : L2.St} {H : Hp} (e : σ[0]? = some (some (.ref a))) (hE : ExI H a (CA K x)) : ∀ (L : List Str) {Q : List V → Hp → Prop}, (∀ y ∈ L, y ∈ allN) → Q (L.map fun y => V.bl (kb x y)) H → tIsL K L σ H Q
  | [], Q, _, q => q
  | y :: L, Q, h, q => is1 T hx (h y List.mem_cons_self) e hE (isL T hx e hE L (Q := fun xs H2 => Q (.bl (kb x y) :: xs) H2) (fun z hz => h z (List.mem_cons_of_mem _ hz)) q)
/-- which of the law's own classes -/
def kindsOf (x : Str) : List Int := ((List.range 12).filter fun k => (kindN.map fun y => kb x y)[k]? == some true).map fun (k : Nat) => (k : Int)
def spKinds (K : PySem.W.Frag) : Sp := fun vs H Q _ => ∃ a x, vs = [.ref a] ∧ x ∈ allN ∧ ExI H a (CA K x) ∧ ∀ l H', Same H H' → H' l = some (.lst ((kindsOf x).map V.int)) → Q (.ref l) H'
abbrev N_law_kinds_of : List Str := ["e", "told", "k"]
theorem scKinds : FnScope N_law_kinds_of ["e"] (defScope s_law_kinds_of) := ⟨rfl, rfl, rfl, by decide +kernel, rfl, by decide +kernel, by decide +kernel⟩
theorem ok_kinds {f : Addr} {fd : FuncData} (F : FnP K "_law_kinds_of" s_law_kinds_of f fd) (T : TCls P w K mg base) (S : TSame mg) (gr : mg "range" = none) : FnOk P w K mg base CX0 1 f fd ["e"] (spKinds K) := by
  refine F.ok scKinds (fun vs H Q E h => ?_) (fun cdv A outer s H vs Q E hr h => ?_)
  · obtain ⟨a, x, rfl, _⟩ := h
    rfl
  · obtain ⟨a, x, rfl, hx, hE, k⟩ := h
    refine ⟨_, PSs.nox (pss_cons (ps_set (i := 1) scKinds.nd rfl (by first | exact .inl rfl | exact .inr rfl) (pe_lst (pa_cons (pe_callB call_isV (by rfl) S.isi (by decide +kernel) (pa_cons (pv 0) (pa_cons (pe_glob (v := .ref (CA K "BadChanges")) rfl (T.glo "BadChanges" (by decide +kernel)) rfl) pa_nil))) (pa_cons (pe_callB call_isV (by rfl) S.isi (by decide +kernel) (pa_cons (pv 0) (pa_cons (pe_glob (v := .ref (CA K "BadPrices")) rfl (T.glo "BadPrices" (by decide +kernel)) rfl) pa_nil))) (pa_cons (pe_callB call_isV (by rfl) S.isi (by decide +kernel) (pa_cons (pv 0) (pa_cons (pe_glob (v := .ref (CA K "BadUnsure")) rfl (T.glo "BadUnsure" (by decide +kernel)) rfl) pa_nil))) (pa_cons (pe_callB call_isV (by rfl) S.isi (by decide +kernel) (pa_cons (pv 0) (pa_cons (pe_glob (v := .ref (CA K "BadPlaces")) rfl (T.glo "BadPlaces" (by decide +kernel)) rfl) pa_nil))) pa_nil)))))) (pss_cons (ps_expr (pe_bm PySem.F.plainAttrs_list PySem.F.slot_list_extend PySem.F.type_list_extend mt_extend (pv 1) (pa_cons (pe_lst (pa_cons (pe_callB call_isV (by rfl) S.isi (by decide +kernel) (pa_cons (pv 0) (pa_cons (pe_glob (v := .ref (CA K "BadAsks")) rfl (T.glo "BadAsks" (by decide +kernel)) rfl) pa_nil))) (pa_cons (pe_callB call_isV (by rfl) S.isi (by decide +kernel) (pa_cons (pv 0) (pa_cons (pe_glob (v := .ref (CA K "NotApart")) rfl (T.glo "NotApart" (by decide +kernel)) rfl) pa_nil))) (pa_cons (pe_callB call_isV (by rfl) S.isi (by decide +kernel) (pa_cons (pv 0) (pa_cons (pe_glob (v := .ref (CA K "BadStrategy")) rfl (T.glo "BadStrategy" (by decide +kernel)) rfl) pa_nil))) (pa_cons (pe_callB call_isV (by rfl) S.isi (by decide +kernel) (pa_cons (pv 0) (pa_cons (pe_glob (v := .ref (CA K "BadEdit")) rfl (T.glo "BadEdit" (by decide +kernel)) rfl) pa_nil))) pa_nil))))) pa_nil))) (pss_cons (ps_expr (pe_bm PySem.F.plainAttrs_list PySem.F.slot_list_extend PySem.F.type_list_extend mt_extend (pv 1) (pa_cons (pe_lst (pa_cons (pe_callB call_isV (by rfl) S.isi (by decide +kernel) (pa_cons (pv 0) (pa_cons (pe_glob (v := .ref (CA K "BadDesk")) rfl (T.glo "BadDesk" (by decide +kernel)) rfl) pa_nil))) (pa_cons (pe_callB call_isV (by rfl) S.isi (by decide +kernel) (pa_cons (pv 0) (pa_cons (pe_glob (v := .ref (CA K "BadDeskText")) rfl (T.glo "BadDeskText" (by decide +kernel)) rfl) pa_nil))) (pa_cons (pe_callB call_isV (by rfl) S.isi (by decide +kernel) (pa_cons (pv 0) (pa_cons (pe_glob (v := .ref (CA K "NothingToUndo")) rfl (T.glo "NothingToUndo" (by decide +kernel)) rfl) pa_nil))) (pa_cons (pe_callB call_isV (by rfl) S.isi (by decide +kernel) (pa_cons (pv 0) (pa_cons (pe_glob (v := .ref (CA K "NothingToRedo")) rfl (T.glo "NothingToRedo" (by decide +kernel)) rfl) pa_nil))) pa_nil))))) pa_nil))) (pss_one (ps_ret (pe_lc (own := [("k", 2)]) (g := gName 2) (tt := (tB (tOp (rIxL K) (tVar 1) (tVar 2)))) (by rfl) scKinds.nd (pi_range1 (by rfl) gr (pa_cons pe_int pa_nil)) (blkOk_by (own := [("k", 2)]) (N := N_law_kinds_of) (sc := defScope s_law_kinds_of) (by decide +kernel)) (fun _ _ _ _ _ => (pg_name (i := 2) scKinds.nd rfl (Or.inl rfl))) (fun _ _ _ _ _ => (pts_one (pt_val (pe_ix ix_list (pv 1) (pv 2) (fun _ _ => rfl))))) (fun _ _ _ _ _ => (pv 2)))))))), ?_⟩
    refine isL T hx rfl hE (["BadChanges", "BadPrices", "BadUnsure", "BadPlaces"] : List Str) (by decide +kernel) ⟨by show 4 ≤ sizeLine; decide, fun l hl => ?_⟩
    have s1 : Same H (upd H l (.lst ((["BadChanges", "BadPrices", "BadUnsure", "BadPlaces"] : List Str).map fun y => V.bl (kb x y)))) := Same.new hl
    refine ⟨_, rfl, .inl ⟨rfl, _, SqL.of upd_same⟩, isL T hx rfl (hE.same s1) (["BadAsks", "NotApart", "BadStrategy", "BadEdit"] : List Str) (by decide +kernel) ⟨by show 4 ≤ sizeLine; decide, fun l2 hl2 => ?_⟩⟩
    have n2 : l ≠ l2 := ne_of_none upd_same hl2
    refine ⟨l, l2, _, _, rfl, rfl, by rw [upd_ne n2, upd_same], upd_same, by show 8 ≤ sizeLine; decide, ?_⟩
    generalize hH2 : upd (upd (upd H l (.lst ((["BadChanges", "BadPrices", "BadUnsure", "BadPlaces"] : List Str).map fun y => V.bl (kb x y)))) l2 (.lst ((["BadAsks", "NotApart", "BadStrategy", "BadEdit"] : List Str).map fun y => V.bl (kb x y)))) l (.lst (((["BadChanges", "BadPrices", "BadUnsure", "BadPlaces"] : List Str).map fun y => V.bl (kb x y)) ++ (["BadAsks", "NotApart", "BadStrategy", "BadEdit"] : List Str).map fun y => V.bl (kb x y))) = H2
    have s2 : Same H H2 := fun b o e => by
      have nb : b ≠ l := ne_of_none e hl
      rw [← hH2, upd_ne nb]
      exact Same.new hl2 _ _ (s1 _ _ e)
    have e2 : H2 l = some (.lst (((["BadChanges", "BadPrices", "BadUnsure", "BadPlaces"] : List Str).map fun y => V.bl (kb x y)) ++ (["BadAsks", "NotApart", "BadStrategy", "BadEdit"] : List Str).map fun y => V.bl (kb x y))) := by rw [← hH2, upd_same]
    clear hH2
    refine ⟨_, rfl, .inl ⟨rfl, _, SqL.of e2⟩, isL T hx rfl (hE.same s2) (["BadDesk", "BadDeskText", "NothingToUndo", "NothingToRedo"] : List Str) (by decide +kernel) ⟨by show 4 ≤ sizeLine; decide, fun l3 hl3 => ?_⟩⟩
    have n3 : l ≠ l3 := ne_of_none e2 hl3
    refine ⟨l, l3, _, _, rfl, rfl, by rw [upd_ne n3, e2], upd_same, by show 12 ≤ sizeLine; decide, ?_⟩
    generalize hH3 : upd (upd H2 l3 (.lst ((["BadDesk", "BadDeskText", "NothingToUndo", "NothingToRedo"] : List Str).map fun y => V.bl (kb x y)))) l (.lst ((((["BadChanges", "BadPrices", "BadUnsure", "BadPlaces"] : List Str).map fun y => V.bl (kb x y)) ++ (["BadAsks", "NotApart", "BadStrategy", "BadEdit"] : List Str).map fun y => V.bl (kb x y)) ++ (["BadDesk", "BadDeskText", "NothingToUndo", "NothingToRedo"] : List Str).map fun y => V.bl (kb x y))) = H3
    have s3 : Same H H3 := fun b o e => by
      have nb : b ≠ l := ne_of_none e hl
      rw [← hH3, upd_ne nb]
      exact Same.new hl3 _ _ (s2 _ _ e)
    have e3 : H3 l = some (.lst ((kindN.map fun y => kb x y).map V.bl)) := by
      rw [← hH3, upd_same]
      simp [kindN]
    clear hH3
    -- the comprehension
    refine ⟨12, rfl, by decide, by decide, fun D hD => ?_⟩
    refine lc_it (walk_range (lo := 0) (n := 12)) (fun i H' => Same H3 H' ∧ H' D = some (.lst ((((List.range i).filter fun k => (kindN.map fun y => kb x y)[k]? == some true).map fun (k : Nat) => (k : Int)).map V.int))) ⟨Same.new hD, upd_same⟩ (fun _ _ _ _ => trivial) ?_ ?_
    · rintro i v H4 H5 hi ⟨s4, e4⟩ ⟨rfl, rfl⟩
      have hi' : i < (kindN.map fun y => kb x y).length := by rw [List.length_map]; exact hi
      refine ⟨rfl, _, rfl, _, rfl, l, _, _, .bl (kindN.map fun y => kb x y)[i], rfl, rfl, SqL.of (s4 _ _ e3), ?_, _, rfl, ?_⟩
      · rw [show (0 : Int) + (i : Int) = ((i : Nat) : Int) by omega]
        exact atI_nat (by rw [List.getElem?_map, List.getElem?_eq_getElem hi']; rfl)
      · have ef : (List.range (i + 1)).filter (fun k => (kindN.map fun y => kb x y)[k]? == some true) = (List.range i).filter (fun k => (kindN.map fun y => kb x y)[k]? == some true) ++ (if (kindN.map fun y => kb x y)[i] = true then [i] else []) := by
          rw [List.range_succ, List.filter_append]
          congr 1
          rw [List.filter_cons, List.filter_nil, List.getElem?_eq_getElem hi']
          cases (kindN.map fun y => kb x y)[i] <;> simp
        cases hb : (kindN.map fun y => kb x y)[i] with
        | true =>
          refine if_true_of rfl ⟨_, rfl, _, e4, ?_, ?_, ?_⟩
          · have := List.length_filter_le (fun k => (kindN.map fun y => kb x y)[k]? == some true) (List.range i)
            simp only [List.length_map, List.length_range] at *
            rw [sizeLine_eq]
            have : kindN.length = 12 := rfl
            omega
          · intro c o e
            rw [upd_ne (ne_of_none e hD)]
            exact s4 _ _ e
          · rw [upd_same, ef, hb]
            simp
        | false =>
          refine if_false_of rfl ⟨s4, ?_⟩
          rw [e4, ef, hb]
          simp
    · rintro H4 ⟨s4, e4⟩
      exact k D _ (s3.trans s4) e4

/-! ### the same, called while the exception that is asked of is handled -/
structure ExP (H : Hp) (p : Addr × Obj) (C : Addr) : Prop where
  cls : p.2.cls = .ref C
  dict : ∃ dx fs, p.2.dict = some dx ∧ H dx = some (exd dx fs)
  data : ∃ vs, p.2.data = .fields vs
theorem ExP.same {H H' : Hp} {p : Addr × Obj} {C : Addr} (s : Same H H') (h : ExP H p C) : ExP H' p C := ⟨h.cls, let ⟨dx, fs, e1, e2⟩ := h.dict; ⟨dx, fs, e1, s _ _ e2⟩, h.data⟩
def tIsP (K : PySem.W.Frag) (p : Addr × Obj) (y : Str) : TE := tCB (rIsP K p) (tCons (tVar 0) (tCons (tC (.ref (CA K y))) tNil))
def tIsLP (K : PySem.W.Frag) (p : Addr × Obj) (L : List Str) : TA := L.foldr (fun y t => tCons (tIsP K p y) t) tNil
theorem is1P (T : TCls P w K mg base) {x y : Str} (hx : x ∈ allN) (hy : y ∈ allN) {p : Addr × Obj} {σ : L2.St} {H : Hp} {Q : VK} (e : σ[0]? = some (some (.ref p.1))) (hE : ExP H p (CA K x)) (q : Q (.bl (kb x y)) H) : tIsP K p y σ H Q := by
  obtain ⟨dx, fs, e1, e2⟩ := hE.dict
  exact ⟨_, e, CA K x, dx, fs, _, _, _, rfl, T.ecl x hx, hE.cls, e1, e2, hE.data, .own _, T.kit x hx y hy, q⟩
theorem isLP (T : TCls P w K mg base) {x : Str} (hx : x ∈ allN) {p : Addr × Obj} {σ : L2.St} {H : Hp} (e : σ[0]? = some (some (.ref p.1))) (hE : ExP H p (CA K x)) : ∀ (L : List Str) {Q : List V → Hp → Prop}, (∀ y ∈ L, y ∈ allN) → Q (L.map fun y => V.bl (kb x y)) H → tIsLP K p L σ H Q
  | [], Q, _, q => q
  | y :: L, Q, h, q => is1P T hx (h y List.mem_cons_self) e hE (isLP T hx e hE L (Q := fun xs H2 => Q (.bl (kb x y) :: xs) H2) (fun z hz => h z (List.mem_cons_of_mem _ hz)) q)
def spKindsP (K : PySem.W.Frag) : Addr × Obj → Sp := fun p vs H Q _ => ∃ x, vs = [.ref p.1] ∧ x ∈ allN ∧ ExP H p (CA K x) ∧ ∀ l H', Same H H' → H' l = some (.lst ((kindsOf x).map V.int)) → Q (.ref l) H'
theorem ok_kindsP {f : Addr} {fd : FuncData} (F : FnP K "_law_kinds_of" s_law_kinds_of f fd) (T : TCls P w K mg base) (S : TSame mg) (gr : mg "range" = none) : FnP2 P w K mg base CX0 2 f fd ["e"] (spKindsP K) := by
  refine fnP2_of F scKinds (fun p vs H Q E h => ?_) (fun cdv A outer s H vs Q E p hh hr h => ?_)
  · obtain ⟨x, rfl, _⟩ := h
    rfl
  · obtain ⟨x, rfl, hx, hE, k⟩ := h
    have hp1 : p ∈ ([p] : List (Addr × Obj)) := List.mem_singleton.mpr rfl
    refine ⟨_, (pss_cons (ps_set (i := 1) scKinds.nd rfl (by first | exact .inl rfl | exact .inr rfl) (pe_lst (pa_cons (pe_callB (call_isP p hp1) (by rfl) S.isi (by decide +kernel) (pa_cons (pv 0) (pa_cons (pe_glob (v := .ref (CA K "BadChanges")) rfl (T.glo "BadChanges" (by decide +kernel)) rfl) pa_nil))) (pa_cons (pe_callB (call_isP p hp1) (by rfl) S.isi (by decide +kernel) (pa_cons (pv 0) (pa_cons (pe_glob (v := .ref (CA K "BadPrices")) rfl (T.glo "BadPrices" (by decide +kernel)) rfl) pa_nil))) (pa_cons (pe_callB (call_isP p hp1) (by rfl) S.isi (by decide +kernel) (pa_cons (pv 0) (pa_cons (pe_glob (v := .ref (CA K "BadUnsure")) rfl (T.glo "BadUnsure" (by decide +kernel)) rfl) pa_nil))) (pa_cons (pe_callB (call_isP p hp1) (by rfl) S.isi (by decide +kernel) (pa_cons (pv 0) (pa_cons (pe_glob (v := .ref (CA K "BadPlaces")) rfl (T.glo "BadPlaces" (by decide +kernel)) rfl) pa_nil))) pa_nil)))))) (pss_cons (ps_expr (pe_bm PySem.F.plainAttrs_list PySem.F.slot_list_extend PySem.F.type_list_extend mt_extend (pv 1) (pa_cons (pe_lst (pa_cons (pe_callB (call_isP p hp1) (by rfl) S.isi (by decide +kernel) (pa_cons (pv 0) (pa_cons (pe_glob (v := .ref (CA K "BadAsks")) rfl (T.glo "BadAsks" (by decide +kernel)) rfl) pa_nil))) (pa_cons (pe_callB (call_isP p hp1) (by rfl) S.isi (by decide +kernel) (pa_cons (pv 0) (pa_cons (pe_glob (v := .ref (CA K "NotApart")) rfl (T.glo "NotApart" (by decide +kernel)) rfl) pa_nil))) (pa_cons (pe_callB (call_isP p hp1) (by rfl) S.isi (by decide +kernel) (pa_cons (pv 0) (pa_cons (pe_glob (v := .ref (CA K "BadStrategy")) rfl (T.glo "BadStrategy" (by decide +kernel)) rfl) pa_nil))) (pa_cons (pe_callB (call_isP p hp1) (by rfl) S.isi (by decide +kernel) (pa_cons (pv 0) (pa_cons (pe_glob (v := .ref (CA K "BadEdit")) rfl (T.glo "BadEdit" (by decide +kernel)) rfl) pa_nil))) pa_nil))))) pa_nil))) (pss_cons (ps_expr (pe_bm PySem.F.plainAttrs_list PySem.F.slot_list_extend PySem.F.type_list_extend mt_extend (pv 1) (pa_cons (pe_lst (pa_cons (pe_callB (call_isP p hp1) (by rfl) S.isi (by decide +kernel) (pa_cons (pv 0) (pa_cons (pe_glob (v := .ref (CA K "BadDesk")) rfl (T.glo "BadDesk" (by decide +kernel)) rfl) pa_nil))) (pa_cons (pe_callB (call_isP p hp1) (by rfl) S.isi (by decide +kernel) (pa_cons (pv 0) (pa_cons (pe_glob (v := .ref (CA K "BadDeskText")) rfl (T.glo "BadDeskText" (by decide +kernel)) rfl) pa_nil))) (pa_cons (pe_callB (call_isP p hp1) (by rfl) S.isi (by decide +kernel) (pa_cons (pv 0) (pa_cons (pe_glob (v := .ref (CA K "NothingToUndo")) rfl (T.glo "NothingToUndo" (by decide +kernel)) rfl) pa_nil))) (pa_cons (pe_callB (call_isP p hp1) (by rfl) S.isi (by decide +kernel) (pa_cons (pv 0) (pa_cons (pe_glob (v := .ref (CA K "NothingToRedo")) rfl (T.glo "NothingToRedo" (by decide +kernel)) rfl) pa_nil))) pa_nil))))) pa_nil))) (pss_one (ps_ret (pe_lcH (own := [("k", 2)]) (g := gName 2) (tt := (tB (tOp (rIxL K) (tVar 1) (tVar 2)))) ⟨p, hh, hp1⟩ scKinds.nd (L2H.pi_range1H (by rfl) gr (pa_cons pe_int pa_nil)) (blkOk_by (own := [("k", 2)]) (N := N_law_kinds_of) (sc := defScope s_law_kinds_of) (by decide +kernel)) (fun _ _ _ _ _ _ _ _ => (pg_name (i := 2) scKinds.nd rfl (Or.inl rfl))) (fun _ _ _ _ _ _ _ _ => (pts_one (pt_val (pe_ix ix_list (pv 1) (pv 2) (fun _ _ => rfl))))) (fun _ _ _ _ _ _ _ _ => (pv 2)))))))), ?_⟩
    refine isLP T hx rfl hE (["BadChanges", "BadPrices", "BadUnsure", "BadPlaces"] : List Str) (by decide +kernel) ⟨by show 4 ≤ sizeLine; decide, fun l hl => ?_⟩
    have s1 : Same H (upd H l (.lst ((["BadChanges", "BadPrices", "BadUnsure", "BadPlaces"] : List Str).map fun y => V.bl (kb x y)))) := Same.new hl
    refine ⟨_, rfl, .inl ⟨rfl, _, SqL.of upd_same⟩, isLP T hx rfl (hE.same s1) (["BadAsks", "NotApart", "BadStrategy", "BadEdit"] : List Str) (by decide +kernel) ⟨by show 4 ≤ sizeLine; decide, fun l2 hl2 => ?_⟩⟩
    have n2 : l ≠ l2 := ne_of_none upd_same hl2
    refine ⟨l, l2, _, _, rfl, rfl, by rw [upd_ne n2, upd_same], upd_same, by show 8 ≤ sizeLine; decide, ?_⟩
    generalize hH2 : upd (upd (upd H l (.lst ((["BadChanges", "BadPrices", "BadUnsure", "BadPlaces"] : List Str).map fun y => V.bl (kb x y)))) l2 (.lst ((["BadAsks", "NotApart", "BadStrategy", "BadEdit"] : List Str).map fun y => V.bl (kb x y)))) l (.lst (((["BadChanges", "BadPrices", "BadUnsure", "BadPlaces"] : List Str).map fun y => V.bl (kb x y)) ++ (["BadAsks", "NotApart", "BadStrategy", "BadEdit"] : List Str).map fun y => V.bl (kb x y))) = H2
    have s2 : Same H H2 := fun b o e => by
      have nb : b ≠ l := ne_of_none e hl
      rw [← hH2, upd_ne nb]
      exact Same.new hl2 _ _ (s1 _ _ e)
    have e2 : H2 l = some (.lst (((["BadChanges", "BadPrices", "BadUnsure", "BadPlaces"] : List Str).map fun y => V.bl (kb x y)) ++ (["BadAsks", "NotApart", "BadStrategy", "BadEdit"] : List Str).map fun y => V.bl (kb x y))) := by rw [← hH2, upd_same]
    clear hH2
    refine ⟨_, rfl, .inl ⟨rfl, _, SqL.of e2⟩, isLP T hx rfl (hE.same s2) (["BadDesk", "BadDeskText", "NothingToUndo", "NothingToRedo"] : List Str) (by decide +kernel) ⟨by show 4 ≤ sizeLine; decide, fun l3 hl3 => ?_⟩⟩
    have n3 : l ≠ l3 := ne_of_none e2 hl3
    refine ⟨l, l3, _, _, rfl, rfl, by rw [upd_ne n3, e2], upd_same, by show 12 ≤ sizeLine; decide, ?_⟩
    generalize hH3 : upd (upd H2 l3 (.lst ((["BadDesk", "BadDeskText", "NothingToUndo", "NothingToRedo"] : List Str).map fun y => V.bl (kb x y)))) l (.lst ((((["BadChanges", "BadPrices", "BadUnsure", "BadPlaces"] : List Str).map fun y => V.bl (kb x y)) ++ (["BadAsks", "NotApart", "BadStrategy", "BadEdit"] : List Str).map fun y => V.bl (kb x y)) ++ (["BadDesk", "BadDeskText", "NothingToUndo", "NothingToRedo"] : List Str).map fun y => V.bl (kb x y))) = H3
    have s3 : Same H H3 := fun b o e => by
      have nb : b ≠ l := ne_of_none e hl
      rw [← hH3, upd_ne nb]
      exact Same.new hl3 _ _ (s2 _ _ e)
    have e3 : H3 l = some (.lst ((kindN.map fun y => kb x y).map V.bl)) := by
      rw [← hH3, upd_same]
      simp [kindN]
    clear hH3
    -- the comprehension
    refine ⟨12, rfl, by decide, by decide, fun D hD => ?_⟩
    refine lc_it (walk_range (lo := 0) (n := 12)) (fun i H' => Same H3 H' ∧ H' D = some (.lst ((((List.range i).filter fun k => (kindN.map fun y => kb x y)[k]? == some true).map fun (k : Nat) => (k : Int)).map V.int))) ⟨Same.new hD, upd_same⟩ (fun _ _ _ _ => trivial) ?_ ?_
    · rintro i v H4 H5 hi ⟨s4, e4⟩ ⟨rfl, rfl⟩
      have hi' : i < (kindN.map fun y => kb x y).length := by rw [List.length_map]; exact hi
      refine ⟨rfl, _, rfl, _, rfl, l, _, _, .bl (kindN.map fun y => kb x y)[i], rfl, rfl, SqL.of (s4 _ _ e3), ?_, _, rfl, ?_⟩
      · rw [show (0 : Int) + (i : Int) = ((i : Nat) : Int) by omega]
        exact atI_nat (by rw [List.getElem?_map, List.getElem?_eq_getElem hi']; rfl)
      · have ef : (List.range (i + 1)).filter (fun k => (kindN.map fun y => kb x y)[k]? == some true) = (List.range i).filter (fun k => (kindN.map fun y => kb x y)[k]? == some true) ++ (if (kindN.map fun y => kb x y)[i] = true then [i] else []) := by
          rw [List.range_succ, List.filter_append]
          congr 1
          rw [List.filter_cons, List.filter_nil, List.getElem?_eq_getElem hi']
          cases (kindN.map fun y => kb x y)[i] <;> simp
        cases hb : (kindN.map fun y => kb x y)[i] with
        | true =>
          refine if_true_of rfl ⟨_, rfl, _, e4, ?_, ?_, ?_⟩
          · have := List.length_filter_le (fun k => (kindN.map fun y => kb x y)[k]? == some true) (List.range i)
            simp only [List.length_map, List.length_range] at *
            rw [sizeLine_eq]
            have : kindN.length = 12 := rfl
            omega
          · intro c o e
            rw [upd_ne (ne_of_none e hD)]
            exact s4 _ _ e
          · rw [upd_same, ef, hb]
            simp
        | false =>
          refine if_false_of rfl ⟨s4, ?_⟩
          rw [e4, ef, hb]
          simp
    · rintro H4 ⟨s4, e4⟩
      exact k D _ (s3.trans s4) e4
end
end K95

set_option Elab.async false
set_option linter.all false
set_option maxRecDepth 100000
set_option maxHeartbeats 4000000
namespace K95
open PySem PySem.Spec PyProof.Rows L2 EV HLC HCX

/-! ### no class of the other files; an error of each of them -/
def othN : List Str := (["DeedError", "BadOther", "BadFormulas", "BadNumbers", "BadOthers", "BadPremises", "BadBefore", "BadAfter", "BadOutline", "BadAnswer", "BadWholeText", "BadRounds", "HasTest", "BadFormula", "BadProgram", "BadPlace", "BadForm", "BadModel", "BadNumber", "BadFormulaText"] : List Str) ++ (["BadProgramText", "BadModelText", "BadRun", "BadMany", "BadRest", "BadTold", "BadOrder", "BadWord", "BadWords", "BadDeeds", "BadDepth", "BadSome", "BadLot"] : List Str)
theorem oth_all : ∀ x ∈ othN, x ∈ allN := by decide +kernel
theorem oth_kinds : ∀ x ∈ othN, kindsOf x = [] := by decide +kernel
section
variable {P : Program} {w : World} {K : PySem.W.Frag} {mg : Str → Option Value} {base : Heap}
theorem kitAnyL (T : TCls P w K mg base) {x : Str} (hx : x ∈ allN) : ∀ (L : List Str), (∀ y ∈ L, y ∈ allN) → PySem.W.kitAny K (.ref (CA K x)) (L.map fun y => Value.ref (CA K y)) = some (L.any fun y => kb x y)
  | [], _ => rfl
  | y :: L, h => by
    refine kitAny_cons (T.kit x hx y (h y List.mem_cons_self)) (fun e => ?_) (fun e => by rw [List.any_cons, e, Bool.true_or])
    rw [List.any_cons, e, Bool.false_or]
    exact kitAnyL T hx L fun z hz => h z (List.mem_cons_of_mem _ hz)
theorem clsL {K : PySem.W.Frag} : ∀ L : List Str, Paired ClsV (L.map fun y => V.ref (CA K y)) (L.map fun y => Value.ref (CA K y))
  | [] => .nil
  | _ :: L => .cons (.own _) (clsL L)
def isOth (x : Str) : Bool := [(["BadOther", "BadFormulas", "BadNumbers", "BadOthers", "BadPremises", "BadBefore", "BadAfter", "BadOutline", "BadAnswer"] : List Str).any fun y => kb x y, (["BadWholeText", "BadRounds", "HasTest", "BadFormula", "BadProgram", "BadPlace", "BadForm", "BadModel", "BadNumber"] : List Str).any fun y => kb x y, (["BadFormulaText", "BadProgramText", "BadModelText", "BadRun", "BadMany", "BadRest", "BadTold", "BadOrder", "BadWord"] : List Str).any fun y => kb x y, (["BadWords", "BadDeeds", "BadDepth", "BadSome", "BadLot"] : List Str).any fun y => kb x y].any id
theorem isOth_kind : ∀ x ∈ kindN, isOth x = false := by decide +kernel
theorem isOth_deed : isOth "DeedError" = false := by decide +kernel
theorem inV_bl : ∀ ts : List Bool, inV (.bl true) (ts.map V.bl) = ts.any id
  | [] => rfl
  | t :: ts => by
    have ih := inV_bl ts
    unfold inV at ih ⊢
    rw [List.map_cons, List.any_cons, List.any_cons, ih]
    cases t <;> rfl
def spIsOther (K : PySem.W.Frag) : Sp := fun vs H Q _ => ∃ a x, vs = [.ref a] ∧ x ∈ allN ∧ ExI H a (CA K x) ∧ ∀ H', Same H H' → Q (.bl (isOth x)) H'
abbrev N_law_is_other : List Str := ["e", "told"]
theorem scIsOther : FnScope N_law_is_other ["e"] (defScope s_law_is_other) := ⟨rfl, rfl, rfl, by decide +kernel, rfl, by decide +kernel, by decide +kernel⟩
theorem ok_isother {f : Addr} {fd : FuncData} (F : FnP K "_law_is_other" s_law_is_other f fd) (T : TCls P w K mg base) (S : TSame mg) : FnOk P w K mg base CX0 1 f fd ["e"] (spIsOther K) := by
  refine F.ok scIsOther (fun vs H Q E h => ?_) (fun cdv A outer s H vs Q E hr h => ?_)
  · obtain ⟨a, x, rfl, _⟩ := h
    rfl
  · obtain ⟨a, x, rfl, hx, hE, k⟩ := h
    refine ⟨_, PSs.nox (pss_cons (ps_set (i := 1) scIsOther.nd rfl (by first | exact .inl rfl | exact .inr rfl) (pe_lst (pa_cons (pe_callB call_isVT (by rfl) S.isi (by decide +kernel) (pa_cons (pv 0) (pa_cons (pe_tup (pa_cons (pe_glob (v := .ref (CA K "BadOther")) rfl (T.glo "BadOther" (by decide +kernel)) rfl) (pa_cons (pe_glob (v := .ref (CA K "BadFormulas")) rfl (T.glo "BadFormulas" (by decide +kernel)) rfl) (pa_cons (pe_glob (v := .ref (CA K "BadNumbers")) rfl (T.glo "BadNumbers" (by decide +kernel)) rfl) (pa_cons (pe_glob (v := .ref (CA K "BadOthers")) rfl (T.glo "BadOthers" (by decide +kernel)) rfl) (pa_cons (pe_glob (v := .ref (CA K "BadPremises")) rfl (T.glo "BadPremises" (by decide +kernel)) rfl) (pa_cons (pe_glob (v := .ref (CA K "BadBefore")) rfl (T.glo "BadBefore" (by decide +kernel)) rfl) (pa_cons (pe_glob (v := .ref (CA K "BadAfter")) rfl (T.glo "BadAfter" (by decide +kernel)) rfl) (pa_cons (pe_glob (v := .ref (CA K "BadOutline")) rfl (T.glo "BadOutline" (by decide +kernel)) rfl) (pa_cons (pe_glob (v := .ref (CA K "BadAnswer")) rfl (T.glo "BadAnswer" (by decide +kernel)) rfl) pa_nil)))))))))) pa_nil))) pa_nil))) (pss_cons (ps_expr (pe_bm PySem.F.plainAttrs_list PySem.F.slot_list_append PySem.F.type_list_append mt_append (pv 1) (pa_cons (pe_callB call_isVT (by rfl) S.isi (by decide +kernel) (pa_cons (pv 0) (pa_cons (pe_tup (pa_cons (pe_glob (v := .ref (CA K "BadWholeText")) rfl (T.glo "BadWholeText" (by decide +kernel)) rfl) (pa_cons (pe_glob (v := .ref (CA K "BadRounds")) rfl (T.glo "BadRounds" (by decide +kernel)) rfl) (pa_cons (pe_glob (v := .ref (CA K "HasTest")) rfl (T.glo "HasTest" (by decide +kernel)) rfl) (pa_cons (pe_glob (v := .ref (CA K "BadFormula")) rfl (T.glo "BadFormula" (by decide +kernel)) rfl) (pa_cons (pe_glob (v := .ref (CA K "BadProgram")) rfl (T.glo "BadProgram" (by decide +kernel)) rfl) (pa_cons (pe_glob (v := .ref (CA K "BadPlace")) rfl (T.glo "BadPlace" (by decide +kernel)) rfl) (pa_cons (pe_glob (v := .ref (CA K "BadForm")) rfl (T.glo "BadForm" (by decide +kernel)) rfl) (pa_cons (pe_glob (v := .ref (CA K "BadModel")) rfl (T.glo "BadModel" (by decide +kernel)) rfl) (pa_cons (pe_glob (v := .ref (CA K "BadNumber")) rfl (T.glo "BadNumber" (by decide +kernel)) rfl) pa_nil)))))))))) pa_nil))) pa_nil))) (pss_cons (ps_expr (pe_bm PySem.F.plainAttrs_list PySem.F.slot_list_append PySem.F.type_list_append mt_append (pv 1) (pa_cons (pe_callB call_isVT (by rfl) S.isi (by decide +kernel) (pa_cons (pv 0) (pa_cons (pe_tup (pa_cons (pe_glob (v := .ref (CA K "BadFormulaText")) rfl (T.glo "BadFormulaText" (by decide +kernel)) rfl) (pa_cons (pe_glob (v := .ref (CA K "BadProgramText")) rfl (T.glo "BadProgramText" (by decide +kernel)) rfl) (pa_cons (pe_glob (v := .ref (CA K "BadModelText")) rfl (T.glo "BadModelText" (by decide +kernel)) rfl) (pa_cons (pe_glob (v := .ref (CA K "BadRun")) rfl (T.glo "BadRun" (by decide +kernel)) rfl) (pa_cons (pe_glob (v := .ref (CA K "BadMany")) rfl (T.glo "BadMany" (by decide +kernel)) rfl) (pa_cons (pe_glob (v := .ref (CA K "BadRest")) rfl (T.glo "BadRest" (by decide +kernel)) rfl) (pa_cons (pe_glob (v := .ref (CA K "BadTold")) rfl (T.glo "BadTold" (by decide +kernel)) rfl) (pa_cons (pe_glob (v := .ref (CA K "BadOrder")) rfl (T.glo "BadOrder" (by decide +kernel)) rfl) (pa_cons (pe_glob (v := .ref (CA K "BadWord")) rfl (T.glo "BadWord" (by decide +kernel)) rfl) pa_nil)))))))))) pa_nil))) pa_nil))) (pss_cons (ps_expr (pe_bm PySem.F.plainAttrs_list PySem.F.slot_list_append PySem.F.type_list_append mt_append (pv 1) (pa_cons (pe_callB call_isVT (by rfl) S.isi (by decide +kernel) (pa_cons (pv 0) (pa_cons (pe_tup (pa_cons (pe_glob (v := .ref (CA K "BadWords")) rfl (T.glo "BadWords" (by decide +kernel)) rfl) (pa_cons (pe_glob (v := .ref (CA K "BadDeeds")) rfl (T.glo "BadDeeds" (by decide +kernel)) rfl) (pa_cons (pe_glob (v := .ref (CA K "BadDepth")) rfl (T.glo "BadDepth" (by decide +kernel)) rfl) (pa_cons (pe_glob (v := .ref (CA K "BadSome")) rfl (T.glo "BadSome" (by decide +kernel)) rfl) (pa_cons (pe_glob (v := .ref (CA K "BadLot")) rfl (T.glo "BadLot" (by decide +kernel)) rfl) pa_nil)))))) pa_nil))) pa_nil))) (pss_one (ps_ret (pe_cmpR op_in_seq pe_bl (pv 1) (by rfl)))))))), ?_⟩
    refine ⟨_, rfl, (by show 9 ≤ sizeLine; decide), fun t1 h1 => ⟨_, CA K x, _, _, _, _, rfl, upd_same, T.ecl x hx, hE.same (Same.new h1), clsL (["BadOther", "BadFormulas", "BadNumbers", "BadOthers", "BadPremises", "BadBefore", "BadAfter", "BadOutline", "BadAnswer"] : List Str), kitAnyL T hx (["BadOther", "BadFormulas", "BadNumbers", "BadOthers", "BadPremises", "BadBefore", "BadAfter", "BadOutline", "BadAnswer"] : List Str) (by decide +kernel), (by show 1 ≤ sizeLine; decide), fun l hl => ?_⟩⟩
    generalize hG1 : upd (upd H t1 _) l _ = H1
    have s1 : Same H H1 := by rw [← hG1]; exact (Same.new h1).trans (Same.new hl)
    have e1 : H1 l = some (.lst [V.bl ((["BadOther", "BadFormulas", "BadNumbers", "BadOthers", "BadPremises", "BadBefore", "BadAfter", "BadOutline", "BadAnswer"] : List Str).any fun y => kb x y)]) := by rw [← hG1]; exact upd_same
    have hln : H l = none := (Same.new h1).free hl
    clear hG1 hl
    refine ⟨_, rfl, .inl ⟨rfl, _, SqL.of e1⟩, _, rfl, (by show 9 ≤ sizeLine; decide), fun t2 h2 => ⟨_, CA K x, _, _, _, _, rfl, upd_same, T.ecl x hx, hE.same (s1.trans (Same.new h2)), clsL (["BadWholeText", "BadRounds", "HasTest", "BadFormula", "BadProgram", "BadPlace", "BadForm", "BadModel", "BadNumber"] : List Str), kitAnyL T hx (["BadWholeText", "BadRounds", "HasTest", "BadFormula", "BadProgram", "BadPlace", "BadForm", "BadModel", "BadNumber"] : List Str) (by decide +kernel), l, _, _, rfl, rfl, Same.new h2 _ _ e1, by show 1 < sizeLine; decide, ?_⟩⟩
    generalize hG2 : upd (upd H1 t2 _) l _ = H2
    have s2 : Same H H2 := fun b o e => by rw [← hG2, upd_ne (ne_of_none e hln)]; exact Same.new h2 _ _ (s1 _ _ e)
    have e2 : H2 l = some (.lst [V.bl ((["BadOther", "BadFormulas", "BadNumbers", "BadOthers", "BadPremises", "BadBefore", "BadAfter", "BadOutline", "BadAnswer"] : List Str).any fun y => kb x y), V.bl ((["BadWholeText", "BadRounds", "HasTest", "BadFormula", "BadProgram", "BadPlace", "BadForm", "BadModel", "BadNumber"] : List Str).any fun y => kb x y)]) := by rw [← hG2]; exact upd_same
    clear hG2
    refine ⟨_, rfl, .inl ⟨rfl, _, SqL.of e2⟩, _, rfl, (by show 9 ≤ sizeLine; decide), fun t3 h3 => ⟨_, CA K x, _, _, _, _, rfl, upd_same, T.ecl x hx, hE.same (s2.trans (Same.new h3)), clsL (["BadFormulaText", "BadProgramText", "BadModelText", "BadRun", "BadMany", "BadRest", "BadTold", "BadOrder", "BadWord"] : List Str), kitAnyL T hx (["BadFormulaText", "BadProgramText", "BadModelText", "BadRun", "BadMany", "BadRest", "BadTold", "BadOrder", "BadWord"] : List Str) (by decide +kernel), l, _, _, rfl, rfl, Same.new h3 _ _ e2, by show 2 < sizeLine; decide, ?_⟩⟩
    generalize hG3 : upd (upd H2 t3 _) l _ = H3
    have s3 : Same H H3 := fun b o e => by rw [← hG3, upd_ne (ne_of_none e hln)]; exact Same.new h3 _ _ (s2 _ _ e)
    have e3 : H3 l = some (.lst [V.bl ((["BadOther", "BadFormulas", "BadNumbers", "BadOthers", "BadPremises", "BadBefore", "BadAfter", "BadOutline", "BadAnswer"] : List Str).any fun y => kb x y), V.bl ((["BadWholeText", "BadRounds", "HasTest", "BadFormula", "BadProgram", "BadPlace", "BadForm", "BadModel", "BadNumber"] : List Str).any fun y => kb x y), V.bl ((["BadFormulaText", "BadProgramText", "BadModelText", "BadRun", "BadMany", "BadRest", "BadTold", "BadOrder", "BadWord"] : List Str).any fun y => kb x y)]) := by rw [← hG3]; exact upd_same
    clear hG3
    refine ⟨_, rfl, .inl ⟨rfl, _, SqL.of e3⟩, _, rfl, (by show 5 ≤ sizeLine; decide), fun t4 h4 => ⟨_, CA K x, _, _, _, _, rfl, upd_same, T.ecl x hx, hE.same (s3.trans (Same.new h4)), clsL (["BadWords", "BadDeeds", "BadDepth", "BadSome", "BadLot"] : List Str), kitAnyL T hx (["BadWords", "BadDeeds", "BadDepth", "BadSome", "BadLot"] : List Str) (by decide +kernel), l, _, _, rfl, rfl, Same.new h4 _ _ e3, by show 3 < sizeLine; decide, ?_⟩⟩
    generalize hG4 : upd (upd H3 t4 _) l _ = H4
    have s4 : Same H H4 := fun b o e => by rw [← hG4, upd_ne (ne_of_none e hln)]; exact Same.new h4 _ _ (s3 _ _ e)
    have e4 : H4 l = some (.lst ([(["BadOther", "BadFormulas", "BadNumbers", "BadOthers", "BadPremises", "BadBefore", "BadAfter", "BadOutline", "BadAnswer"] : List Str).any fun y => kb x y, (["BadWholeText", "BadRounds", "HasTest", "BadFormula", "BadProgram", "BadPlace", "BadForm", "BadModel", "BadNumber"] : List Str).any fun y => kb x y, (["BadFormulaText", "BadProgramText", "BadModelText", "BadRun", "BadMany", "BadRest", "BadTold", "BadOrder", "BadWord"] : List Str).any fun y => kb x y, (["BadWords", "BadDeeds", "BadDepth", "BadSome", "BadLot"] : List Str).any fun y => kb x y].map V.bl)) := by rw [← hG4]; exact upd_same
    clear hG4
    refine ⟨_, rfl, l, _, rfl, .inl (SqL.of e4), rfl, rfl, ?_⟩
    have z := k H4 s4
    unfold isOth at z
    rw [← inV_bl] at z
    exact z
/-! ### others -/
def OthS (K : PySem.W.Frag) (H : Hp) (v : V) : Prop := ∃ a x, v = .ref a ∧ x ∈ othN ∧ ExI H a (CA K x)
theorem OthS.same {H H' : Hp} (s : Same H H') {v : V} (h : OthS K H v) : OthS K H' v := let ⟨a, x, e, m, z⟩ := h; ⟨a, x, e, m, z.same s⟩
def GoodT (K : PySem.W.Frag) (te : TE) : Prop := ∀ (v : V) (σ : L2.St) (H : Hp) (Q : VK), σ[0]? = some (some v) → (∀ y H', Same H H' → OthS K H' y → Q y H') → te σ H Q
def tMkx (K : PySem.W.Frag) (p : Str × Str) : TE := tMkV (CA K p.1) p.2 (tVar 0)
def tBare (K : PySem.W.Frag) (x : Str) : TE := fun _ H Q => ∀ a, H a = none → Q (.ref a) (upd H a (exo a (CA K x) none))
theorem good_mk {p : Str × Str} (h : p.1 ∈ othN) : GoodT K (tMkx K p) := fun v σ H Q e k => ⟨v, e, fun a dx ha hd hn => k _ _ (hMk_same ha hd) ⟨a, p.1, rfl, h, (hMk_ex hn).ex⟩⟩
theorem good_bare {x : Str} (h : x ∈ othN) : GoodT K (tBare K x) := fun v σ H Q e k a ha => k _ _ (Same.new ha) ⟨a, x, rfl, h, .inl upd_same⟩
def tAll (ts : List TE) : TA := ts.foldr tCons tNil
theorem goodL (v : V) (σ : L2.St) (e : σ[0]? = some (some v)) : ∀ (ts : List TE) (H : Hp) (Q : List V → Hp → Prop), (∀ t ∈ ts, GoodT K t) → (∀ vs H', Same H H' → vs.length = ts.length → (∀ y ∈ vs, OthS K H' y) → Q vs H') → tAll ts σ H Q
  | [], H, Q, _, k => k [] H (Same.refl H) rfl fun _ h => nomatch h
  | t :: ts, H, Q, g, k => g t List.mem_cons_self v σ H _ e fun y H1 s1 o1 => goodL v σ e ts H1 _ (fun z hz => g z (List.mem_cons_of_mem _ hz)) fun vs H2 s2 l2 o2 => k (y :: vs) H2 (s1.trans s2) (congrArg Nat.succ l2) fun z hz => by
    rcases List.mem_cons.mp hz with rfl | hz
    · exact o1.same s2
    · exact o2 z hz
def spOthers (K : PySem.W.Frag) : Sp := fun vs H Q _ => ∃ v, vs = [v] ∧ ∀ l ys H', Same H H' → H' l = some (.lst ys) → ys.length ≤ 100 → (∀ y ∈ ys, OthS K H' y) → Q (.ref l) H'
abbrev N_law_others : List Str := ["x", "told"]
theorem scOthers : FnScope N_law_others ["x"] (defScope s_law_others) := ⟨rfl, rfl, rfl, by decide +kernel, rfl, by decide +kernel, by decide +kernel⟩
/-- told.extend([..]) -/
theorem ext_step {σ : L2.St} {H0 H : Hp} {l : Addr} {ys : List V} {v : V} (ts : List TE) (hσ0 : σ[0]? = some (some v)) (hσ1 : σ[1]? = some (some (.ref l))) (hl0 : H0 l = none) (s : Same H0 H) (el : H l = some (.lst ys)) (ll : ys.length ≤ 50) (oy : ∀ y ∈ ys, OthS K H y) (g : ∀ t ∈ ts, GoodT K t) (hts : ts.length ≤ 10)
    {D : Ends} (k : ∀ (zs : List V) (H' : Hp), Same H0 H' → H' l = some (.lst zs) → zs.length = ys.length + ts.length → (∀ y ∈ zs, OthS K H' y) → D.nx σ H') :
    tDrop (tBM K "list" rExtend (tVar 1) (tCons (tLst (tAll ts)) tNil)) D σ H := by
  refine ⟨_, hσ1, .inl ⟨rfl, _, SqL.of el⟩, goodL v σ hσ0 ts H _ g fun vs H1 s1 lv ov => ⟨by rw [lv, sizeLine_eq]; omega, fun l2 hl2 => ?_⟩⟩
  have n2 : l ≠ l2 := ne_of_none (s1 _ _ el) hl2
  refine ⟨l, l2, _, _, rfl, rfl, by rw [upd_ne n2]; exact s1 _ _ el, upd_same, by rw [lv, sizeLine_eq]; omega, ?_⟩
  have sF : ∀ b o, b ≠ l → H b = some o → upd (upd H1 l2 (.lst vs)) l (.lst (ys ++ vs)) b = some o := fun b o hb e => by
    rw [upd_ne hb]
    exact Same.new hl2 _ _ (s1 _ _ e)
  refine k (ys ++ vs) _ (fun b o e => sF b o (ne_of_none e hl0) (s _ _ e)) upd_same (by rw [List.length_append, lv]) fun y hy => ?_
  have oall : OthS K H1 y := by
    rcases List.mem_append.mp hy with hy | hy
    · exact (oy y hy).same s1
    · exact ov y hy
  obtain ⟨a, x, rfl, mx, hx⟩ := oall
  -- what stands at l is a list, no exception's part
  have nl : H1 l = some (.lst ys) := s1 _ _ el
  have ne : ∀ {b o}, H1 b = some o → (∀ zs, o ≠ .lst zs) → upd (upd H1 l2 (.lst vs)) l (.lst (ys ++ vs)) b = some o := fun {b o} e ho => by
    have hb : b ≠ l := fun z => by
      rw [z, nl] at e
      exact ho ys (Option.some.inj e).symm
    rw [upd_ne hb]
    exact Same.new hl2 _ _ e
  refine ⟨a, x, rfl, mx, ?_⟩
  rcases hx with h | ⟨dx, fs, h, hd⟩
  · exact .inl (ne h fun zs z => nomatch z)
  · exact .inr ⟨dx, fs, ne h (fun zs z => nomatch z), ne hd fun zs z => nomatch z⟩
theorem ok_others {f : Addr} {fd : FuncData} (F : FnP K "_law_others" s_law_others f fd) (T : TCls P w K mg base) : FnOk P w K mg base CX0 3 f fd ["x"] (spOthers K) := by
  refine F.ok scOthers (fun vs H Q E h => ?_) (fun cdv A outer s H vs Q E hr h => ?_)
  · obtain ⟨v, rfl, _⟩ := h
    rfl
  · obtain ⟨v, rfl, k⟩ := h
    have hr2 : Room 2 _ := hr
    refine ⟨_, PSs.nox (pss_cons (ps_set (i := 1) scOthers.nd rfl (by first | exact .inl rfl | exact .inr rfl) (pe_lst (pa_cons (pe_mkP (T.ini ("BadOther", "other") (by decide +kernel)) hr2 rfl (pv 0)) (pa_cons (pe_mkP (T.ini ("BadFormulas", "index") (by decide +kernel)) hr2 rfl (pv 0)) (pa_cons (pe_mkP (T.ini ("BadNumbers", "index") (by decide +kernel)) hr2 rfl (pv 0)) (pa_cons (pe_mkP (T.ini ("BadOthers", "index") (by decide +kernel)) hr2 rfl (pv 0)) (pa_cons (pe_mkP (T.ini ("BadPremises", "index") (by decide +kernel)) hr2 rfl (pv 0)) (pa_cons (pe_mkP (T.ini ("BadBefore", "before") (by decide +kernel)) hr2 rfl (pv 0)) (pa_cons (pe_mkP (T.ini ("BadAfter", "after") (by decide +kernel)) hr2 rfl (pv 0)) (pa_cons (pe_mkP (T.ini ("BadOutline", "outline") (by decide +kernel)) hr2 rfl (pv 0)) pa_nil)))))))))) (pss_cons (ps_expr (pe_bm PySem.F.plainAttrs_list PySem.F.slot_list_extend PySem.F.type_list_extend mt_extend (pv 1) (pa_cons (pe_lst (pa_cons (pe_mkP (T.ini ("BadAnswer", "answer") (by decide +kernel)) hr2 rfl (pv 0)) (pa_cons (pe_mkP (T.ini ("BadWholeText", "line") (by decide +kernel)) hr2 rfl (pv 0)) (pa_cons (pe_mkP (T.ini ("BadRounds", "rounds") (by decide +kernel)) hr2 rfl (pv 0)) (pa_cons (pe_mkP (T.ini ("HasTest", "program") (by decide +kernel)) hr2 rfl (pv 0)) (pa_cons (pe_mkP (T.ini ("BadFormula", "formula") (by decide +kernel)) hr2 rfl (pv 0)) (pa_cons (pe_mkP (T.ini ("BadProgram", "program") (by decide +kernel)) hr2 rfl (pv 0)) (pa_cons (pe_mkP (T.ini ("BadPlace", "place") (by decide +kernel)) hr2 rfl (pv 0)) (pa_cons (pe_mkP (T.ini ("BadForm", "form") (by decide +kernel)) hr2 rfl (pv 0)) pa_nil))))))))) pa_nil))) (pss_cons (ps_expr (pe_bm PySem.F.plainAttrs_list PySem.F.slot_list_extend PySem.F.type_list_extend mt_extend (pv 1) (pa_cons (pe_lst (pa_cons (pe_mkP (T.ini ("BadModel", "model") (by decide +kernel)) hr2 rfl (pv 0)) (pa_cons (pe_mkP (T.ini ("BadNumber", "number") (by decide +kernel)) hr2 rfl (pv 0)) (pa_cons (pe_mkP (T.ini ("BadFormulaText", "number") (by decide +kernel)) hr2 rfl (pv 0)) (pa_cons (pe_mkP (T.ini ("BadProgramText", "number") (by decide +kernel)) hr2 rfl (pv 0)) (pa_cons (pe_mkP (T.ini ("BadModelText", "line") (by decide +kernel)) hr2 rfl (pv 0)) (pa_cons (pe_mkP (T.ini ("BadRun", "run") (by decide +kernel)) hr2 rfl (pv 0)) (pa_cons (pe_mkP (T.ini ("BadMany", "many") (by decide +kernel)) hr2 rfl (pv 0)) (pa_cons (pe_mkP (T.ini ("BadRest", "index") (by decide +kernel)) hr2 rfl (pv 0)) pa_nil))))))))) pa_nil))) (pss_cons (ps_expr (pe_bm PySem.F.plainAttrs_list PySem.F.slot_list_extend PySem.F.type_list_extend mt_extend (pv 1) (pa_cons (pe_lst (pa_cons (pe_mkP (T.ini ("BadTold", "told") (by decide +kernel)) hr2 rfl (pv 0)) (pa_cons (pe_mkP (T.ini ("BadOrder", "index") (by decide +kernel)) hr2 rfl (pv 0)) (pa_cons (pe_mkP (T.ini ("BadWord", "word") (by decide +kernel)) hr2 rfl (pv 0)) (pa_cons (pe_mkP (T.ini ("BadWords", "index") (by decide +kernel)) hr2 rfl (pv 0)) (pa_cons (pe_mkP (T.ini ("BadDeeds", "index") (by decide +kernel)) hr2 rfl (pv 0)) (pa_cons (pe_mkP (T.ini ("BadDepth", "depth") (by decide +kernel)) hr2 rfl (pv 0)) (pa_cons (pe_mkP (T.ini ("BadSome", "index") (by decide +kernel)) hr2 rfl (pv 0)) (pa_cons (pe_mkP (T.ini ("BadLot", "index") (by decide +kernel)) hr2 rfl (pv 0)) pa_nil))))))))) pa_nil))) (pss_one (ps_ret (pv 1))))))), ?_⟩
    refine goodL v _ rfl [tMkx K ("BadOther", "other"), tMkx K ("BadFormulas", "index"), tMkx K ("BadNumbers", "index"), tMkx K ("BadOthers", "index"), tMkx K ("BadPremises", "index"), tMkx K ("BadBefore", "before"), tMkx K ("BadAfter", "after"), tMkx K ("BadOutline", "outline")] H _ (fun t h => (List.mem_cons.mp h).elim (fun e => by subst e; exact good_mk (p := ("BadOther", "other")) (by decide +kernel)) ((fun t h => (List.mem_cons.mp h).elim (fun e => by subst e; exact good_mk (p := ("BadFormulas", "index")) (by decide +kernel)) ((fun t h => (List.mem_cons.mp h).elim (fun e => by subst e; exact good_mk (p := ("BadNumbers", "index")) (by decide +kernel)) ((fun t h => (List.mem_cons.mp h).elim (fun e => by subst e; exact good_mk (p := ("BadOthers", "index")) (by decide +kernel)) ((fun t h => (List.mem_cons.mp h).elim (fun e => by subst e; exact good_mk (p := ("BadPremises", "index")) (by decide +kernel)) ((fun t h => (List.mem_cons.mp h).elim (fun e => by subst e; exact good_mk (p := ("BadBefore", "before")) (by decide +kernel)) ((fun t h => (List.mem_cons.mp h).elim (fun e => by subst e; exact good_mk (p := ("BadAfter", "after")) (by decide +kernel)) ((fun t h => (List.mem_cons.mp h).elim (fun e => by subst e; exact good_mk (p := ("BadOutline", "outline")) (by decide +kernel)) ((fun t h => (List.not_mem_nil h).elim) t)) t)) t)) t)) t)) t)) t)) t)) fun vs H1 s1 lv ov => ⟨by rw [lv, sizeLine_eq]; exact Nat.le_of_ble_eq_true rfl, fun l hl => ?_⟩
    have sl : Same H1 (upd H1 l (.lst vs)) := Same.new hl
    refine ext_step (H0 := H) (v := v) [tMkx K ("BadAnswer", "answer"), tMkx K ("BadWholeText", "line"), tMkx K ("BadRounds", "rounds"), tMkx K ("HasTest", "program"), tMkx K ("BadFormula", "formula"), tMkx K ("BadProgram", "program"), tMkx K ("BadPlace", "place"), tMkx K ("BadForm", "form")] rfl rfl (s1.free hl) (s1.trans sl) upd_same (by rw [lv]; exact Nat.le_of_ble_eq_true rfl) (fun y hy => (ov y hy).same sl) (fun t h => (List.mem_cons.mp h).elim (fun e => by subst e; exact good_mk (p := ("BadAnswer", "answer")) (by decide +kernel)) ((fun t h => (List.mem_cons.mp h).elim (fun e => by subst e; exact good_mk (p := ("BadWholeText", "line")) (by decide +kernel)) ((fun t h => (List.mem_cons.mp h).elim (fun e => by subst e; exact good_mk (p := ("BadRounds", "rounds")) (by decide +kernel)) ((fun t h => (List.mem_cons.mp h).elim (fun e => by subst e; exact good_mk (p := ("HasTest", "program")) (by decide +kernel)) ((fun t h => (List.mem_cons.mp h).elim (fun e => by subst e; exact good_mk (p := ("BadFormula", "formula")) (by decide +kernel)) ((fun t h => (List.mem_cons.mp h).elim (fun e => by subst e; exact good_mk (p := ("BadProgram", "program")) (by decide +kernel)) ((fun t h => (List.mem_cons.mp h).elim (fun e => by subst e; exact good_mk (p := ("BadPlace", "place")) (by decide +kernel)) ((fun t h => (List.mem_cons.mp h).elim (fun e => by subst e; exact good_mk (p := ("BadForm", "form")) (by decide +kernel)) ((fun t h => (List.not_mem_nil h).elim) t)) t)) t)) t)) t)) t)) t)) t)) (by exact Nat.le_of_ble_eq_true rfl) fun z2 H2 s2 e2 l2 o2 => ?_
    refine ext_step (H0 := H) (v := v) [tMkx K ("BadModel", "model"), tMkx K ("BadNumber", "number"), tMkx K ("BadFormulaText", "number"), tMkx K ("BadProgramText", "number"), tMkx K ("BadModelText", "line"), tMkx K ("BadRun", "run"), tMkx K ("BadMany", "many"), tMkx K ("BadRest", "index")] rfl rfl (s1.free hl) s2 e2 (by rw [l2, lv]; exact Nat.le_of_ble_eq_true rfl) o2 (fun t h => (List.mem_cons.mp h).elim (fun e => by subst e; exact good_mk (p := ("BadModel", "model")) (by decide +kernel)) ((fun t h => (List.mem_cons.mp h).elim (fun e => by subst e; exact good_mk (p := ("BadNumber", "number")) (by decide +kernel)) ((fun t h => (List.mem_cons.mp h).elim (fun e => by subst e; exact good_mk (p := ("BadFormulaText", "number")) (by decide +kernel)) ((fun t h => (List.mem_cons.mp h).elim (fun e => by subst e; exact good_mk (p := ("BadProgramText", "number")) (by decide +kernel)) ((fun t h => (List.mem_cons.mp h).elim (fun e => by subst e; exact good_mk (p := ("BadModelText", "line")) (by decide +kernel)) ((fun t h => (List.mem_cons.mp h).elim (fun e => by subst e; exact good_mk (p := ("BadRun", "run")) (by decide +kernel)) ((fun t h => (List.mem_cons.mp h).elim (fun e => by subst e; exact good_mk (p := ("BadMany", "many")) (by decide +kernel)) ((fun t h => (List.mem_cons.mp h).elim (fun e => by subst e; exact good_mk (p := ("BadRest", "index")) (by decide +kernel)) ((fun t h => (List.not_mem_nil h).elim) t)) t)) t)) t)) t)) t)) t)) t)) (by exact Nat.le_of_ble_eq_true rfl) fun z3 H3 s3 e3 l3 o3 => ?_
    refine ext_step (H0 := H) (v := v) [tMkx K ("BadTold", "told"), tMkx K ("BadOrder", "index"), tMkx K ("BadWord", "word"), tMkx K ("BadWords", "index"), tMkx K ("BadDeeds", "index"), tMkx K ("BadDepth", "depth"), tMkx K ("BadSome", "index"), tMkx K ("BadLot", "index")] rfl rfl (s1.free hl) s3 e3 (by rw [l3, l2, lv]; exact Nat.le_of_ble_eq_true rfl) o3 (fun t h => (List.mem_cons.mp h).elim (fun e => by subst e; exact good_mk (p := ("BadTold", "told")) (by decide +kernel)) ((fun t h => (List.mem_cons.mp h).elim (fun e => by subst e; exact good_mk (p := ("BadOrder", "index")) (by decide +kernel)) ((fun t h => (List.mem_cons.mp h).elim (fun e => by subst e; exact good_mk (p := ("BadWord", "word")) (by decide +kernel)) ((fun t h => (List.mem_cons.mp h).elim (fun e => by subst e; exact good_mk (p := ("BadWords", "index")) (by decide +kernel)) ((fun t h => (List.mem_cons.mp h).elim (fun e => by subst e; exact good_mk (p := ("BadDeeds", "index")) (by decide +kernel)) ((fun t h => (List.mem_cons.mp h).elim (fun e => by subst e; exact good_mk (p := ("BadDepth", "depth")) (by decide +kernel)) ((fun t h => (List.mem_cons.mp h).elim (fun e => by subst e; exact good_mk (p := ("BadSome", "index")) (by decide +kernel)) ((fun t h => (List.mem_cons.mp h).elim (fun e => by subst e; exact good_mk (p := ("BadLot", "index")) (by decide +kernel)) ((fun t h => (List.not_mem_nil h).elim) t)) t)) t)) t)) t)) t)) t)) t)) (by exact Nat.le_of_ble_eq_true rfl) fun z4 H4 s4 e4 l4 o4 => ?_
    exact ⟨_, rfl, k l z4 H4 s4 e4 (by rw [l4, l3, l2, lv]; exact Nat.le_of_ble_eq_true rfl) o4⟩
end
end K95

set_option Elab.async false
set_option linter.all false
set_option maxRecDepth 100000
set_option maxHeartbeats 4000000
namespace K95
open PySem PySem.Spec PyProof.Rows L2 EV HLC HCX

/-! ### the error of a place -/
abbrev N_made : List Str := ["at", "x", "made"]
def fldOf : List (Str × Str) := [("BadChanges", "index"), ("BadPrices", "prices"), ("BadUnsure", "index"), ("BadPlaces", "index"), ("BadAsks", "index"), ("NotApart", "index"), ("BadStrategy", "strategy"), ("BadEdit", "edit"), ("BadDesk", "desk"), ("BadDeskText", "line")]
theorem fld_ini : ∀ p ∈ fldOf, p ∈ iniN := by decide +kernel
theorem kind_alln : ∀ x ∈ kindN, x ∈ allN := by decide +kernel
section
variable {P : Program} {w : World} {K : PySem.W.Frag} {mg : Str → Option Value} {base : Heap}
/-- what a def that makes the error of the place at hands back -/
structure MadeAt (K : PySem.W.Frag) (H H' : Hp) (x : Str) (v : V) (t e : Addr) : Prop where
  s : Same H H'
  nt : H t = none
  ne : H e = none
  et : H' t = some (.tup [.ref e, v])
  ex : ExI H' e (CA K x)
def spMade (K : PySem.W.Frag) (lo hi : Nat) : Sp := fun vs H Q _ => ∃ (i : Nat) (v : V) (x : Str), vs = [.int (i : Int), v] ∧ lo ≤ i ∧ i < hi ∧ kindN[i]? = some x ∧ ∀ t e H', MadeAt K H H' x v t e → Q (.ref t) H'
theorem madeR (T : TCls P w K mg base) {p : Str × Str} (hp : p ∈ fldOf) {i : Int} {v : V} {H : Hp} {D : Ends} (k : ∀ t e H', MadeAt K H H' p.1 v t e → D.rt (.ref t) H') :
    tSeq (tAsg (tMkV (CA K p.1) p.2 (tVar 1)) (gName 2)) (tRet (tTup (tCons (tVar 2) (tCons (tFldV K p.2 (tVar 2)) tNil)))) D (start N_made [.int i, v]) H := by
  have TI := T.ini p (fld_ini p hp)
  refine ⟨_, rfl, fun a dx ha hd hn => ?_⟩
  have s1 := hMk_same (C := CA K p.1) (f := p.2) (v := v) ha hd
  have x1 : Ex1 (hMk H a dx (CA K p.1) p.2 v) a (CA K p.1) p.2 v := hMk_ex hn
  refine ⟨_, rfl, _, rfl, a, CA K p.1, v, rfl, TI.toECls, TI.no, x1, by show 2 ≤ sizeLine; decide, fun t ht => ?_⟩
  have s5 : Same _ (upd (hMk H a dx (CA K p.1) p.2 v) t (.tup [.ref a, v])) := Same.new ht
  exact k t a _ ⟨s1.trans s5, s1.free ht, ha, upd_same, (x1.same s5).ex⟩

theorem scA : FnScope N_made ["at", "x"] (defScope s_law_made_a) := ⟨rfl, rfl, rfl, by decide +kernel, rfl, by decide +kernel, by decide +kernel⟩
theorem ok_A {f : Addr} {fd : FuncData} (F : FnP K "_law_made_a" s_law_made_a f fd) (T : TCls P w K mg base) : FnOk P w K mg base CX0 3 f fd ["at", "x"] (spMade K 0 8) := by
  refine F.ok scA (fun vs H Q E h => ?_) (fun cdv A outer s H vs Q E hr h => ?_)
  · obtain ⟨i, v, x, rfl, _⟩ := h
    rfl
  · obtain ⟨i, v, x, rfl, h0, h1, hp, k⟩ := h
    have hr2 : Room 2 _ := hr
    refine ⟨_, PSs.nox (pss_cons (ps_if (pt_cmpR op_eq (pv 0) pe_int (nomark _)) (pss_cons (ps_set (i := 2) scA.nd rfl (by first | exact .inl rfl | exact .inr rfl) (pe_mkP (T.ini ("BadChanges", "index") (by decide +kernel)) hr2 rfl (pv 1))) (pss_one (ps_ret (pe_tup (pa_cons (pv 2) (pa_cons (pe_fldV (pv 2)) pa_nil)))))) pss_nil) (pss_cons (ps_if (pt_cmpR op_eq (pv 0) pe_int (nomark _)) (pss_cons (ps_set (i := 2) scA.nd rfl (by first | exact .inl rfl | exact .inr rfl) (pe_mkK (T.ini ("BadPrices", "prices") (by decide +kernel)) hr2 rfl (pv 1))) (pss_one (ps_ret (pe_tup (pa_cons (pv 2) (pa_cons (pe_fldV (pv 2)) pa_nil)))))) pss_nil) (pss_cons (ps_if (pt_cmpR op_eq (pv 0) pe_int (nomark _)) (pss_cons (ps_set (i := 2) scA.nd rfl (by first | exact .inl rfl | exact .inr rfl) (pe_mkP (T.ini ("BadUnsure", "index") (by decide +kernel)) hr2 rfl (pv 1))) (pss_one (ps_ret (pe_tup (pa_cons (pv 2) (pa_cons (pe_fldV (pv 2)) pa_nil)))))) pss_nil) (pss_cons (ps_if (pt_cmpR op_eq (pv 0) pe_int (nomark _)) (pss_cons (ps_set (i := 2) scA.nd rfl (by first | exact .inl rfl | exact .inr rfl) (pe_mkP (T.ini ("BadPlaces", "index") (by decide +kernel)) hr2 rfl (pv 1))) (pss_one (ps_ret (pe_tup (pa_cons (pv 2) (pa_cons (pe_fldV (pv 2)) pa_nil)))))) pss_nil) (pss_cons (ps_if (pt_cmpR op_eq (pv 0) pe_int (nomark _)) (pss_cons (ps_set (i := 2) scA.nd rfl (by first | exact .inl rfl | exact .inr rfl) (pe_mkK (T.ini ("BadAsks", "index") (by decide +kernel)) hr2 rfl (pv 1))) (pss_one (ps_ret (pe_tup (pa_cons (pv 2) (pa_cons (pe_fldV (pv 2)) pa_nil)))))) pss_nil) (pss_cons (ps_if (pt_cmpR op_eq (pv 0) pe_int (nomark _)) (pss_cons (ps_set (i := 2) scA.nd rfl (by first | exact .inl rfl | exact .inr rfl) (pe_mkP (T.ini ("NotApart", "index") (by decide +kernel)) hr2 rfl (pv 1))) (pss_one (ps_ret (pe_tup (pa_cons (pv 2) (pa_cons (pe_fldV (pv 2)) pa_nil)))))) pss_nil) (pss_cons (ps_if (pt_cmpR op_eq (pv 0) pe_int (nomark _)) (pss_cons (ps_set (i := 2) scA.nd rfl (by first | exact .inl rfl | exact .inr rfl) (pe_mkP (T.ini ("BadStrategy", "strategy") (by decide +kernel)) hr2 rfl (pv 1))) (pss_one (ps_ret (pe_tup (pa_cons (pv 2) (pa_cons (pe_fldV (pv 2)) pa_nil)))))) pss_nil) (pss_cons (ps_set (i := 2) scA.nd rfl (by first | exact .inl rfl | exact .inr rfl) (pe_mkK (T.ini ("BadEdit", "edit") (by decide +kernel)) hr2 rfl (pv 1))) (pss_one (ps_ret (pe_tup (pa_cons (pv 2) (pa_cons (pe_fldV (pv 2)) pa_nil))))))))))))), ?_⟩
    have hi : i = 0 ∨ i = 1 ∨ i = 2 ∨ i = 3 ∨ i = 4 ∨ i = 5 ∨ i = 6 ∨ i = 7 := by omega
    rcases hi with rfl | rfl | rfl | rfl | rfl | rfl | rfl | rfl
    · have ep : x = ("BadChanges" : Str) := (Option.some.inj hp).symm
      subst ep
      refine ⟨_, rfl, rfl, _, rfl, ?_⟩
      refine if_true_of rfl ?_
      exact madeR T (p := (("BadChanges", "index") : Str × Str)) (by decide +kernel) k
    · have ep : x = ("BadPrices" : Str) := (Option.some.inj hp).symm
      subst ep
      refine ⟨_, rfl, rfl, _, rfl, ?_⟩
      refine if_false_of rfl ?_
      refine ⟨_, rfl, rfl, _, rfl, ?_⟩
      refine if_true_of rfl ?_
      exact madeR T (p := (("BadPrices", "prices") : Str × Str)) (by decide +kernel) k
    · have ep : x = ("BadUnsure" : Str) := (Option.some.inj hp).symm
      subst ep
      refine ⟨_, rfl, rfl, _, rfl, ?_⟩
      refine if_false_of rfl ?_
      refine ⟨_, rfl, rfl, _, rfl, ?_⟩
      refine if_false_of rfl ?_
      refine ⟨_, rfl, rfl, _, rfl, ?_⟩
      refine if_true_of rfl ?_
      exact madeR T (p := (("BadUnsure", "index") : Str × Str)) (by decide +kernel) k
    · have ep : x = ("BadPlaces" : Str) := (Option.some.inj hp).symm
      subst ep
      refine ⟨_, rfl, rfl, _, rfl, ?_⟩
      refine if_false_of rfl ?_
      refine ⟨_, rfl, rfl, _, rfl, ?_⟩
      refine if_false_of rfl ?_
      refine ⟨_, rfl, rfl, _, rfl, ?_⟩
      refine if_false_of rfl ?_
      refine ⟨_, rfl, rfl, _, rfl, ?_⟩
      refine if_true_of rfl ?_
      exact madeR T (p := (("BadPlaces", "index") : Str × Str)) (by decide +kernel) k
    · have ep : x = ("BadAsks" : Str) := (Option.some.inj hp).symm
      subst ep
      refine ⟨_, rfl, rfl, _, rfl, ?_⟩
      refine if_false_of rfl ?_
      refine ⟨_, rfl, rfl, _, rfl, ?_⟩
      refine if_false_of rfl ?_
      refine ⟨_, rfl, rfl, _, rfl, ?_⟩
      refine if_false_of rfl ?_
      refine ⟨_, rfl, rfl, _, rfl, ?_⟩
      refine if_false_of rfl ?_
      refine ⟨_, rfl, rfl, _, rfl, ?_⟩
      refine if_true_of rfl ?_
      exact madeR T (p := (("BadAsks", "index") : Str × Str)) (by decide +kernel) k
    · have ep : x = ("NotApart" : Str) := (Option.some.inj hp).symm
      subst ep
      refine ⟨_, rfl, rfl, _, rfl, ?_⟩
      refine if_false_of rfl ?_
      refine ⟨_, rfl, rfl, _, rfl, ?_⟩
      refine if_false_of rfl ?_
      refine ⟨_, rfl, rfl, _, rfl, ?_⟩
      refine if_false_of rfl ?_
      refine ⟨_, rfl, rfl, _, rfl, ?_⟩
      refine if_false_of rfl ?_
      refine ⟨_, rfl, rfl, _, rfl, ?_⟩
      refine if_false_of rfl ?_
      refine ⟨_, rfl, rfl, _, rfl, ?_⟩
      refine if_true_of rfl ?_
      exact madeR T (p := (("NotApart", "index") : Str × Str)) (by decide +kernel) k
    · have ep : x = ("BadStrategy" : Str) := (Option.some.inj hp).symm
      subst ep
      refine ⟨_, rfl, rfl, _, rfl, ?_⟩
      refine if_false_of rfl ?_
      refine ⟨_, rfl, rfl, _, rfl, ?_⟩
      refine if_false_of rfl ?_
      refine ⟨_, rfl, rfl, _, rfl, ?_⟩
      refine if_false_of rfl ?_
      refine ⟨_, rfl, rfl, _, rfl, ?_⟩
      refine if_false_of rfl ?_
      refine ⟨_, rfl, rfl, _, rfl, ?_⟩
      refine if_false_of rfl ?_
      refine ⟨_, rfl, rfl, _, rfl, ?_⟩
      refine if_false_of rfl ?_
      refine ⟨_, rfl, rfl, _, rfl, ?_⟩
      refine if_true_of rfl ?_
      exact madeR T (p := (("BadStrategy", "strategy") : Str × Str)) (by decide +kernel) k
    · have ep : x = ("BadEdit" : Str) := (Option.some.inj hp).symm
      subst ep
      refine ⟨_, rfl, rfl, _, rfl, ?_⟩
      refine if_false_of rfl ?_
      refine ⟨_, rfl, rfl, _, rfl, ?_⟩
      refine if_false_of rfl ?_
      refine ⟨_, rfl, rfl, _, rfl, ?_⟩
      refine if_false_of rfl ?_
      refine ⟨_, rfl, rfl, _, rfl, ?_⟩
      refine if_false_of rfl ?_
      refine ⟨_, rfl, rfl, _, rfl, ?_⟩
      refine if_false_of rfl ?_
      refine ⟨_, rfl, rfl, _, rfl, ?_⟩
      refine if_false_of rfl ?_
      refine ⟨_, rfl, rfl, _, rfl, ?_⟩
      refine if_false_of rfl ?_
      exact madeR T (p := (("BadEdit", "edit") : Str × Str)) (by decide +kernel) k

theorem scB : FnScope N_made ["at", "x"] (defScope s_law_made_b) := ⟨rfl, rfl, rfl, by decide +kernel, rfl, by decide +kernel, by decide +kernel⟩
theorem ok_B {f : Addr} {fd : FuncData} (F : FnP K "_law_made_b" s_law_made_b f fd) (T : TCls P w K mg base) : FnOk P w K mg base CX0 3 f fd ["at", "x"] (spMade K 8 10) := by
  refine F.ok scB (fun vs H Q E h => ?_) (fun cdv A outer s H vs Q E hr h => ?_)
  · obtain ⟨i, v, x, rfl, _⟩ := h
    rfl
  · obtain ⟨i, v, x, rfl, h0, h1, hp, k⟩ := h
    have hr2 : Room 2 _ := hr
    refine ⟨_, PSs.nox (pss_cons (ps_if (pt_cmpR op_eq (pv 0) pe_int (nomark _)) (pss_cons (ps_set (i := 2) scB.nd rfl (by first | exact .inl rfl | exact .inr rfl) (pe_mkP (T.ini ("BadDesk", "desk") (by decide +kernel)) hr2 rfl (pv 1))) (pss_one (ps_ret (pe_tup (pa_cons (pv 2) (pa_cons (pe_fldV (pv 2)) pa_nil)))))) pss_nil) (pss_cons (ps_set (i := 2) scB.nd rfl (by first | exact .inl rfl | exact .inr rfl) (pe_mkP (T.ini ("BadDeskText", "line") (by decide +kernel)) hr2 rfl (pv 1))) (pss_one (ps_ret (pe_tup (pa_cons (pv 2) (pa_cons (pe_fldV (pv 2)) pa_nil))))))), ?_⟩
    have hi : i = 8 ∨ i = 9 := by omega
    rcases hi with rfl | rfl
    · have ep : x = ("BadDesk" : Str) := (Option.some.inj hp).symm
      subst ep
      refine ⟨_, rfl, rfl, _, rfl, ?_⟩
      refine if_true_of rfl ?_
      exact madeR T (p := (("BadDesk", "desk") : Str × Str)) (by decide +kernel) k
    · have ep : x = ("BadDeskText" : Str) := (Option.some.inj hp).symm
      subst ep
      refine ⟨_, rfl, rfl, _, rfl, ?_⟩
      refine if_false_of rfl ?_
      exact madeR T (p := (("BadDeskText", "line") : Str × Str)) (by decide +kernel) k

theorem scMadeAt : FnScope ["at", "x"] ["at", "x"] (defScope s_law_made_at) := ⟨rfl, rfl, rfl, by decide +kernel, rfl, by decide +kernel, by decide +kernel⟩
theorem ok_madeat {f f1 f2 : Addr} {fd fd1 fd2 : FuncData} (F : FnP K "_law_made_at" s_law_made_at f fd) (T : TCls P w K mg base) (G1 : FnOk P w K mg base CX0 3 f1 fd1 ["at", "x"] (spMade K 0 8)) (G2 : FnOk P w K mg base CX0 3 f2 fd2 ["at", "x"] (spMade K 8 10))
    (g1 : mg "_law_made_a" = some (.ref f1)) (g2 : mg "_law_made_b" = some (.ref f2)) (k1 : PySem.W.keepIn K (.ref f1) = true) (k2 : PySem.W.keepIn K (.ref f2) = true)
    (b1 : L2.Binds K fd1 ["at", "x"] []) (b2 : L2.Binds K fd2 ["at", "x"] []) : FnOk P w K mg base CX0 4 f fd ["at", "x"] (spMade K 0 12) := by
  refine F.ok scMadeAt (fun vs H Q E h => ?_) (fun cdv A outer s H vs Q E hr h => ?_)
  · obtain ⟨i, v, x, rfl, _⟩ := h
    rfl
  · obtain ⟨i, v, x, rfl, h0, h12, hp, k⟩ := h
    refine ⟨_, PSs.nox (pss_cons (ps_if (pt_cmpR op_lt (pv 0) pe_int (nomark _)) (pss_one (ps_ret (pe_ifExp (pt_cmpR op_lt (pv 0) pe_int (nomark _)) (pe_call G1 hr rfl g1 k1 b1 .nil pass0 (pa_cons (pv 0) (pa_cons (pv 1) pa_nil))) (pe_call G2 hr rfl g2 k2 b2 .nil pass0 (pa_cons (pv 0) (pa_cons (pv 1) pa_nil)))))) pss_nil) (pss_one (ps_ret (pe_tup (pa_cons (pe_ix ix_list (pe_lst (pa_cons (pe_mk0 PySem.F.excBase_ValueError (T.bare "NothingToUndo" (by decide +kernel)).1 (T.glo "NothingToUndo" (by decide +kernel)) (T.bare "NothingToUndo" (by decide +kernel)).2 rfl) (pa_cons (pe_mk0 PySem.F.excBase_ValueError (T.bare "NothingToRedo" (by decide +kernel)).1 (T.glo "NothingToRedo" (by decide +kernel)) (T.bare "NothingToRedo" (by decide +kernel)).2 rfl) pa_nil))) (pe_op op_sub (pv 0) pe_int) (fun _ _ => rfl)) (pa_cons (pv 1) pa_nil)))))), ?_⟩
    refine ⟨_, rfl, _, _, rfl, rfl, _, rfl, ?_⟩
    by_cases c10 : (i : Int) < 10
    · refine if_true_of (decide_eq_true c10) ?_
      refine ⟨_, rfl, _, _, rfl, rfl, _, rfl, ?_⟩
      by_cases c8 : (i : Int) < 8
      · refine if_true_of (decide_eq_true c8) ?_
        exact ⟨_, rfl, _, rfl, i, v, x, rfl, Nat.zero_le _, by omega, hp, k⟩
      · refine if_false_of (decide_eq_false c8) ?_
        exact ⟨_, rfl, _, rfl, i, v, x, rfl, by omega, by omega, hp, k⟩
    · refine if_false_of (decide_eq_false c10) ?_
      refine fun a ha b hb => ⟨by show 2 ≤ sizeLine; decide, fun l hl => ?_⟩
      have s1 : Same H (upd H a (exo a (CA K "NothingToUndo") none)) := Same.new ha
      have s2 := s1.trans (Same.new (o := exo b (CA K "NothingToRedo") none) hb)
      have s3 := s2.trans (Same.new (o := .lst [.ref a, .ref b]) hl)
      have el : upd (upd (upd H a (exo a (CA K "NothingToUndo") none)) b (exo b (CA K "NothingToRedo") none)) l (.lst [.ref a, .ref b]) l = some (.lst [.ref a, .ref b]) := upd_same
      have ea : upd (upd (upd H a (exo a (CA K "NothingToUndo") none)) b (exo b (CA K "NothingToRedo") none)) l (.lst [.ref a, .ref b]) a = some (exo a (CA K "NothingToUndo") none) := ((Same.new (o := exo b (CA K "NothingToRedo") none) hb).trans (Same.new (o := .lst [.ref a, .ref b]) hl)) _ _ upd_same
      have eb : upd (upd (upd H a (exo a (CA K "NothingToUndo") none)) b (exo b (CA K "NothingToRedo") none)) l (.lst [.ref a, .ref b]) b = some (exo b (CA K "NothingToRedo") none) := (Same.new (o := .lst [.ref a, .ref b]) hl) _ _ upd_same
      generalize upd (upd (upd H a (exo a (CA K "NothingToUndo") none)) b (exo b (CA K "NothingToRedo") none)) l (.lst [.ref a, .ref b]) = H1 at s3 el ea eb ⊢
      have hi : i = 10 ∨ i = 11 := by omega
      rcases hi with rfl | rfl
      · refine ⟨_, rfl, _, _, rfl, rfl, l, _, _, .ref a, rfl, rfl, SqL.of el, rfl, _, rfl, by show 2 ≤ sizeLine; decide, fun t ht => ?_⟩
        have sx : Same H1 (upd H1 t (.tup [.ref a, v])) := Same.new ht
        have ex : x = "NothingToUndo" := (Option.some.inj hp).symm
        subst ex
        exact k t a _ ⟨s3.trans sx, s3.free ht, ha, upd_same, .inl (sx _ _ ea)⟩
      · refine ⟨_, rfl, _, _, rfl, rfl, l, _, _, .ref b, rfl, rfl, SqL.of el, rfl, _, rfl, by show 2 ≤ sizeLine; decide, fun t ht => ?_⟩
        have sx : Same H1 (upd H1 t (.tup [.ref b, v])) := Same.new ht
        have ex : x = "NothingToRedo" := (Option.some.inj hp).symm
        subst ex
        exact k t b _ ⟨s3.trans sx, s3.free ht, s1.free hb, upd_same, .inl (sx _ _ eb)⟩
end
end K95

set_option Elab.async false
set_option linter.all false
set_option maxRecDepth 100000
set_option maxHeartbeats 4000000
namespace K95
open PySem PySem.Spec PyProof.Rows L2 EV HLC HCX

/-! ### drawn objects -/
inductive Thing (H : Hp) : Nat → V → Prop
  | non {n : Nat} : Thing H n .non
  | bl {n : Nat} (b : Bool) : Thing H n (.bl b)
  | int {n : Nat} (i : Int) : Thing H n (.int i)
  | str {n : Nat} (z : Str) : Thing H n (.str z)
  | tup {n : Nat} {t : Addr} (i : Int) : H t = some (.tup [.int 1, .int i]) → Thing H n (.ref t)
  | lst {n : Nat} {l m : Addr} (i : Int) : H l = some (.lst ([.int i, .ref m] ++ List.replicate n (.str "more"))) → H m = some (.lst [.int 1]) → Thing H n (.ref l)
  | dic {n : Nat} {d : Addr} (i : Int) : H d = some (.dK ((Sum.inr "a", .int i) :: (if n = 0 then [] else [(Sum.inr "more", .int 1)]))) → Thing H n (.ref d)
theorem Thing.same {H H' : Hp} (s : Same H H') {n : Nat} {v : V} (h : Thing H n v) : Thing H' n v := by
  cases h with
  | non => exact .non
  | bl b => exact .bl b
  | int i => exact .int i
  | str z => exact .str z
  | tup i h => exact .tup i (s _ _ h)
  | lst i h1 h2 => exact .lst i (s _ _ h1) (s _ _ h2)
  | dic i h => exact .dic i (s _ _ h)
theorem Thing.ty {H : Hp} {n : Nat} {v : V} (h : Thing H n v) : (∃ T, TyS H v T ∧ kitB T "list" = some false ∧ kitB T "dict" = some false ∧ Thing H (n + 1) v) ∨ (∃ l m i, v = .ref l ∧ H l = some (.lst ([.int i, .ref m] ++ List.replicate n (.str "more"))) ∧ H m = some (.lst [.int 1])) ∨
    (∃ d i, v = .ref d ∧ H d = some (.dK ((Sum.inr "a", .int i) :: (if n = 0 then [] else [(Sum.inr "more", .int 1)])))) := by
  cases h with
  | non => exact .inl ⟨_, .non, by decide +kernel, by decide +kernel, .non⟩
  | bl b => exact .inl ⟨_, .bl b, by decide +kernel, by decide +kernel, .bl b⟩
  | int i => exact .inl ⟨_, .int i, by decide +kernel, by decide +kernel, .int i⟩
  | str z => exact .inl ⟨_, .str z, by decide +kernel, by decide +kernel, .str z⟩
  | tup i h => exact .inl ⟨_, .tup h, by decide +kernel, by decide +kernel, .tup i h⟩
  | lst i h1 h2 => exact .inr (.inl ⟨_, _, i, rfl, h1, h2⟩)
  | dic i h => exact .inr (.inr ⟨_, i, rfl, h⟩)
theorem rds_rep {H : Hp} {m : Nat} {z : Str} : ∀ n : Nat, RDs H m (List.replicate n (.str z)) (List.replicate n (.str z))
  | 0 => .nil
  | n + 1 => .cons (.str z) (rds_rep n)
theorem Thing.rd {H : Hp} {n : Nat} {v : V} (hn : n ≤ 1000) (h : Thing H n v) : RD H 2 v v := by
  cases h with
  | non => exact .non
  | bl b => exact .bl b
  | int i => exact .int i
  | str z => exact .str z
  | tup i h => exact .tup (by show 2 ≤ 10000; decide) h h (.cons (.int 1) (.cons (.int i) .nil))
  | lst i h1 h2 => exact .lst (by simp; omega) h1 h1 (.cons (.int i) (.cons (.lst (by show 1 ≤ 10000; decide) h2 h2 (.cons (.int 1) .nil)) (rds_rep n)))
  | dic i h =>
    by_cases c : n = 0
    · subst c
      exact .dic (ks := ["a"]) (xs := [.int i]) (ys := [.int i]) h h (by decide +kernel) rfl (by show 1 ≤ 10000; decide) (.cons (.int i) .nil)
    · rw [if_neg c] at h
      exact .dic (ks := ["a", "more"]) (xs := [.int i, .int 1]) (ys := [.int i, .int 1]) h h (by decide +kernel) rfl (by show 2 ≤ 10000; decide) (.cons (.int i) (.cons (.int 1) .nil))
def spVery : Sp := fun vs H Q _ => ∃ v, vs = [v, v] ∧ Thing H 0 v ∧ ∀ H', Same H H' → Q (.bl true) H'
def spObj : Sp := fun vs H Q _ => ∃ (p q : Addr) (n : Nat), vs = [.ref p] ∧ StAt H p q n ∧ n < 1099511620000 ∧ ∀ v H', Thing H' 0 v → (∀ b, v = .ref b → b ≠ p ∧ b ≠ q) → (∀ l m i, v = .ref l → H' l = some (.lst [.int i, .ref m]) → m ≠ p ∧ m ≠ q) → StAt H' p q (n + 10) → But p q H H' → Q v H'
theorem dig99 : ∀ n : Fin 99, (((n.val : Int).natAbs.log2 < 1920) ∧ (("w" : Str).length + (toString (n.val : Int) : Str).length ≤ 100)) := by decide +kernel
abbrev N_law_object : List Str := ["state", "way"]
abbrev N_law_very : List Str := ["found", "due", "same"]
section
variable {P : Program} {w : World} {K : PySem.W.Frag} {mg : Str → Option Value} {base : Heap}
theorem scBetween : FnScope ["state", "low", "high"] ["state", "low", "high"] (defScope s_law_between) := ⟨rfl, rfl, rfl, by decide +kernel, rfl, by decide +kernel, by decide +kernel⟩
theorem ok_between {f fp : Addr} {fd fdp : FuncData} (F : FnP K "_law_between" s_law_between f fd) (G : FnOk P w K mg base CX0 1 fp fdp ["state", "many"] spPick) (gp : mg "_law_pick" = some (.ref fp)) (kp : PySem.W.keepIn K (.ref fp) = true) (bp : L2.Binds K fdp ["state", "many"] []) (gm : mg "max" = none) :
    FnOk P w K mg base CX0 2 f fd ["state", "low", "high"] spBetween := by
  refine F.ok scBetween (fun vs H Q E h => ?_) (fun cdv A outer s H vs Q E hr h => ?_)
  · obtain ⟨p, q, n, l, u, rfl, _⟩ := h
    rfl
  · obtain ⟨p, q, n, l, u, rfl, S, hn, h1, h2, k⟩ := h
    refine ⟨_, PSs.nox (pss_one (ps_ret (pe_op op_add (pv 1) (pe_call G hr rfl gp kp bp .nil pass0 (pa_cons (pv 0) (pa_cons (pe_op op_add (pe_callB (call_max2 rfl) (by rfl) gm (by decide +kernel) (pa_cons (pe_op op_sub (pv 2) (pv 1)) (pa_cons pe_int pa_nil))) pe_int) pa_nil)))))), ?_⟩
    refine ⟨_, rfl, _, rfl, _, rfl, _, rfl, _, _, rfl, rfl, ?_⟩
    refine ⟨_, _, rfl, ?_⟩
    have em : (if (0 : Int) > u - l then (0 : Int) else u - l) = u - l := if_neg (by omega)
    rw [em]
    refine ⟨_, _, rfl, rfl, p, q, n, u - l + 1, rfl, S, hn, by omega, by omega, fun d H' d0 d1 S' B => ?_⟩
    exact ⟨_, _, rfl, rfl, k (l + d) H' (by omega) (by omega) S' B⟩
theorem scVery : FnScope N_law_very ["found", "due"] (defScope s_law_very) := ⟨rfl, rfl, rfl, by decide +kernel, rfl, by decide +kernel, by decide +kernel⟩
theorem Same.put {H : Hp} {a : Addr} {o o' : HO} (e : H a = some o) : Same H (upd (upd H a o') a o) := fun b u eb => by
  by_cases h : b = a
  · subst h; rw [upd_same, ← e, eb]
  · rw [upd_ne h, upd_ne h, eb]
theorem ok_very {f fs : Addr} {fd fds : FuncData} (F : FnP K "_law_very" s_law_very f fd) (S : TSame mg) (G : FnOk P w K mg base CX0 3 fs fds ["found", "due"] (spSame 2)) (gS : mg "_law_same" = some (.ref fs)) (kS : PySem.W.keepIn K (.ref fs) = true) (bS : L2.Binds K fds ["found", "due"] []) :
    FnOk P w K mg base CX0 4 f fd ["found", "due"] spVery := by
  refine F.ok scVery (fun vs H Q E h => ?_) (fun cdv A outer s H vs Q E hr h => ?_)
  · obtain ⟨v, rfl, _⟩ := h
    rfl
  · obtain ⟨v, rfl, hT, k⟩ := h
    have hu := hu_of hr
    refine ⟨_, PSs.nox (pss_cons (ps_if (pt_val (pe_callB call_isi (by rfl) S.isi (by decide +kernel) (pa_cons (pv 1) (pa_cons (pe_bltn (v := .ty "list") (by rfl) S.lst (by decide +kernel) rfl) pa_nil)))) (pss_cons (ps_expr (pe_bm PySem.F.plainAttrs_list PySem.F.slot_list_append PySem.F.type_list_append mt_append (pv 1) (pa_cons pe_str pa_nil))) (pss_cons (ps_set (i := 2) scVery.nd rfl (by first | exact .inl rfl | exact .inr rfl) (pe_and (pe_callB call_isi (by rfl) S.isi (by decide +kernel) (pa_cons (pv 0) (pa_cons (pe_bltn (v := .ty "list") (by rfl) S.lst (by decide +kernel) rfl) pa_nil))) (pe_and (pe_cmpR op_eq (pe_callB call_len (by rfl) S.len (by decide +kernel) (pa_cons (pv 0) pa_nil)) (pe_callB call_len (by rfl) S.len (by decide +kernel) (pa_cons (pv 1) pa_nil)) (nomark _)) (pe_one (pe_cmpR op_eq (pe_ix ix_list (pv 0) (pe_un un_neg pe_int) (fun _ _ => rfl)) pe_str (nomark _)))))) (pss_cons (ps_expr (pe_bm0 PySem.F.plainAttrs_list PySem.F.slot_list_pop PySem.F.type_list_pop mt_pop (pv 1))) (pss_one (ps_ret (pe_and (pv 2) (pe_one (pe_call G hr rfl gS kS bS .nil pass0 (pa_cons (pv 0) (pa_cons (pv 1) pa_nil)))))))))) pss_nil) (pss_cons (ps_if (pt_val (pe_callB call_isi (by rfl) S.isi (by decide +kernel) (pa_cons (pv 1) (pa_cons (pe_bltn (v := .ty "dict") (by rfl) S.dct (by decide +kernel) rfl) pa_nil)))) (pss_cons (ps_dput hu (pv 1) pe_str pe_int rfl) (pss_cons (ps_set (i := 2) scVery.nd rfl (by first | exact .inl rfl | exact .inr rfl) (pe_and (pe_callB call_isi (by rfl) S.isi (by decide +kernel) (pa_cons (pv 0) (pa_cons (pe_bltn (v := .ty "dict") (by rfl) S.dct (by decide +kernel) rfl) pa_nil))) (pe_and (pe_cmp (pc_din hu pe_str (pv 0)) (by rfl)) (pe_one (pe_cmpR op_eq (pe_callB call_lenD (by rfl) S.len (by decide +kernel) (pa_cons (pv 0) pa_nil)) (pe_callB call_lenD (by rfl) S.len (by decide +kernel) (pa_cons (pv 1) pa_nil)) (nomark _)))))) (pss_cons (ps_expr (pe_dpop1 (pv 1) pe_str ⟨by rfl, by rfl, by rfl, by rfl⟩)) (pss_one (ps_ret (pe_and (pv 2) (pe_one (pe_call G hr rfl gS kS bS .nil pass0 (pa_cons (pv 0) (pa_cons (pv 1) pa_nil)))))))))) pss_nil) (pss_one (ps_ret (pe_call G hr rfl gS kS bS .nil pass0 (pa_cons (pv 0) (pa_cons (pv 1) pa_nil))))))), ?_⟩
    rcases hT.ty with ⟨T, ty, t1, t2, hT'⟩ | ⟨l, m, i, rfl, h1, h2⟩ | ⟨d, i, rfl, h1⟩
    · refine ⟨_, rfl, ⟨_, _, _, _, false, rfl, .ty _, TyS.x ty, kit_ty t1, _, rfl, if_false_of rfl ?_⟩⟩
      refine ⟨_, rfl, ⟨_, _, _, _, false, rfl, .ty _, TyS.x ty, kit_ty t2, _, rfl, if_false_of rfl ?_⟩⟩
      exact ⟨_, rfl, _, rfl, v, v, rfl, hT.rd (by decide), fun H' s' => k H' s'⟩
    · refine ⟨_, rfl, ⟨_, _, _, _, true, rfl, .ty _, TyS.x (.lst h1), kit_ty (by decide +kernel), _, rfl, if_true_of rfl ?_⟩⟩
      refine ⟨_, rfl, .inl ⟨rfl, _, SqL.of h1⟩, l, _, _, rfl, rfl, h1, by show 2 < sizeLine; decide, ?_⟩
      have e1 : upd H l (.lst (([.int i, .ref m] ++ List.replicate 0 (.str "more")) ++ [.str "more"])) l = some (.lst [.int i, .ref m, .str "more"]) := upd_same
      have sL : Same H (upd (upd H l (.lst (([.int i, .ref m] ++ List.replicate 0 (.str "more")) ++ [.str "more"]))) l (.lst [.int i, .ref m])) := Same.put (o := .lst [.int i, .ref m]) h1
      generalize upd H l (.lst (([.int i, .ref m] ++ List.replicate 0 (.str "more")) ++ [.str "more"])) = H1 at e1 sL ⊢
      refine ⟨_, rfl, ⟨_, _, _, _, true, rfl, .ty _, TyS.x (.lst e1), kit_ty (by decide +kernel), true, rfl, if_true_of rfl ?_⟩⟩
      refine ⟨_, rfl, _, 3, rfl, .inl ⟨_, SqL.of e1, rfl⟩, ?_⟩
      refine ⟨_, rfl, _, 3, rfl, .inl ⟨_, SqL.of e1, rfl⟩, rfl, true, rfl, if_true_of rfl ?_⟩
      refine ⟨_, rfl, 1, rfl, l, _, -1, .str "more", rfl, rfl, SqL.of e1, rfl, rfl, ?_⟩
      refine ⟨_, rfl, .inl ⟨rfl, _, SqL.of e1⟩, l, _, .str "more", rfl, rfl, e1, rfl, ?_⟩
      refine ⟨_, rfl, true, rfl, if_true_of rfl ?_⟩
      exact ⟨_, rfl, _, rfl, _, _, rfl, (hT.same sL).rd (by decide), fun H' s' => k H' (sL.trans s')⟩
    · refine ⟨_, rfl, ⟨_, _, _, _, false, rfl, .ty _, TyS.x (.dic h1), kit_ty (by decide +kernel), _, rfl, if_false_of rfl ?_⟩⟩
      refine ⟨_, rfl, ⟨_, _, _, _, true, rfl, .ty _, TyS.x (.dic h1), kit_ty (by decide +kernel), _, rfl, if_true_of rfl ?_⟩⟩
      refine ⟨_, rfl, d, _, rfl, DPut.k (k := Sum.inr "more") h1 (by show 1 < sizeLine; decide), ?_⟩
      have e1 : upd H d (.dK (putK (((Sum.inr "a" : Key), V.int i) :: (if (0 : Nat) = 0 then [] else [((Sum.inr "more" : Key), V.int 1)])) (Sum.inr "more") (.int 1))) d = some (.dK [((Sum.inr "a" : Key), V.int i), (Sum.inr "more", .int 1)]) := upd_same
      have sL : Same H (upd (upd H d (.dK (putK (((Sum.inr "a" : Key), V.int i) :: (if (0 : Nat) = 0 then [] else [((Sum.inr "more" : Key), V.int 1)])) (Sum.inr "more") (.int 1)))) d (.dK [((Sum.inr "a" : Key), V.int i)])) := Same.put (o := .dK [((Sum.inr "a" : Key), V.int i)]) h1
      generalize upd H d (.dK (putK (((Sum.inr "a" : Key), V.int i) :: (if (0 : Nat) = 0 then [] else [((Sum.inr "more" : Key), V.int 1)])) (Sum.inr "more") (.int 1))) = H1 at e1 sL ⊢
      refine ⟨_, rfl, ⟨_, _, _, _, true, rfl, .ty _, TyS.x (.dic e1), kit_ty (by decide +kernel), true, rfl, if_true_of rfl ?_⟩⟩
      refine ⟨_, rfl, d, _, rfl, DGet.k (k := Sum.inr "more") e1, true, rfl, if_true_of rfl ?_⟩
      refine ⟨_, rfl, d, _, rfl, e1, ?_⟩
      refine ⟨_, rfl, d, _, rfl, e1, rfl, ?_⟩
      refine ⟨_, rfl, d, rfl, .inl ⟨_, .inl e1⟩, _, Sum.inr "more", _, e1, rfl, rfl, ?_⟩
      refine ⟨_, rfl, true, rfl, if_true_of rfl ?_⟩
      exact ⟨_, rfl, _, rfl, _, _, rfl, (hT.same sL).rd (by decide), fun H' s' => k H' (sL.trans s')⟩
theorem scObject : FnScope N_law_object ["state"] (defScope s_law_object) := ⟨rfl, rfl, rfl, by decide +kernel, rfl, by decide +kernel, by decide +kernel⟩
theorem But.ref {p q : Addr} {H H' : Hp} (b : But p q H H') {a : Addr} {o : HO} (e : H a = some o) (h1 : a ≠ p) (h2 : a ≠ q) : H' a = some o := b a o e h1 h2
theorem StAt.nof {H H1 : Hp} {p q r : Addr} {n : Nat} (S : StAt H p q n) (s : Same H H1) (h : H1 r = none) : r ≠ p ∧ r ≠ q := by
  obtain ⟨⟨_, _, _, _, z1, z2, _⟩, _⟩ := S
  exact ⟨fun z => ne_of_none (s _ _ z1) h z.symm, fun z => ne_of_none (s _ _ z2) h z.symm⟩
theorem ok_object {f fp fb : Addr} {fd fdp fdb : FuncData} (F : FnP K "_law_object" s_law_object f fd) (G : FnOk P w K mg base CX0 1 fp fdp ["state", "many"] spPick) (gp : mg "_law_pick" = some (.ref fp)) (kp : PySem.W.keepIn K (.ref fp) = true) (bp : L2.Binds K fdp ["state", "many"] [])
    (G2 : FnOk P w K mg base CX0 2 fb fdb ["state", "low", "high"] spBetween) (gb : mg "_law_between" = some (.ref fb)) (kb : PySem.W.keepIn K (.ref fb) = true) (bb : L2.Binds K fdb ["state", "low", "high"] []) (S : TSame mg) : FnOk P w K mg base CX0 3 f fd ["state"] spObj := by
  refine F.ok scObject (fun vs H Q E h => ?_) (fun cdv A outer s H vs Q E hr h => ?_)
  · obtain ⟨p, q, n, rfl, _⟩ := h
    rfl
  · obtain ⟨p, q, n, rfl, S0, hn, k⟩ := h
    have hr1 : Room 1 _ := hr.mono (by decide)
    refine ⟨_, PSs.nox (pss_cons (ps_set (i := 1) scObject.nd rfl (by first | exact .inl rfl | exact .inr rfl) (pe_call G hr1 rfl gp kp bp .nil pass0 (pa_cons (pv 0) (pa_cons pe_int pa_nil)))) (pss_cons (ps_if (pt_cmpR op_lt (pv 1) pe_int (nomark _)) (pss_one (ps_ret (pe_ix ix_list (pe_lst (pa_cons (pe_call G2 hr rfl gb kb bb .nil pass0 (pa_cons (pv 0) (pa_cons (pe_un un_neg pe_int) (pa_cons pe_int pa_nil)))) (pa_cons (pe_op op_add_str pe_str (pe_callTy call_str_int (by rfl) S.str (by decide +kernel) (pa_cons (pe_call G hr1 rfl gp kp bp .nil pass0 (pa_cons (pv 0) (pa_cons pe_int pa_nil))) pa_nil))) pa_nil))) (pv 1) (fun _ _ => rfl)))) pss_nil) (pss_cons (ps_if (pt_cmpR op_lt (pv 1) pe_int (nomark _)) (pss_one (ps_ret (pe_ix ix_list (pe_lst (pa_cons pe_non (pa_cons (pe_cmpR op_eq (pe_call G hr1 rfl gp kp bp .nil pass0 (pa_cons (pv 0) (pa_cons pe_int pa_nil))) pe_int (nomark _)) (pa_cons (pe_tup (pa_cons pe_int (pa_cons (pe_call G hr1 rfl gp kp bp .nil pass0 (pa_cons (pv 0) (pa_cons pe_int pa_nil))) pa_nil))) pa_nil)))) (pe_op op_sub (pv 1) pe_int) (fun _ _ => rfl)))) pss_nil) (pss_one (ps_ret (pe_ifExp (pt_cmpR op_eq (pv 1) pe_int (nomark _)) (pe_lst (pa_cons (pe_call G hr1 rfl gp kp bp .nil pass0 (pa_cons (pv 0) (pa_cons pe_int pa_nil))) (pa_cons (pe_lst (pa_cons pe_int pa_nil)) pa_nil))) (pe_disp (pps_cons pe_str (pe_call G hr1 rfl gp kp bp .nil pass0 (pa_cons (pv 0) (pa_cons pe_int pa_nil))) pps_nil) (by rfl) (by rfl) (fun z => by cases z) (by decide)))))))), ?_⟩
    refine ⟨_, rfl, p, q, n, 7, rfl, S0, by omega, by decide, by decide, fun kd H1 k0 k7 S1 B1 => ?_⟩
    obtain ⟨kn, rfl⟩ := Int.eq_ofNat_of_zero_le k0
    refine ⟨_, rfl, _, _, rfl, rfl, _, rfl, ?_⟩
    by_cases c2 : ((kn : Nat) : Int) < 2
    · refine if_true_of (decide_eq_true c2) ?_
      refine ⟨_, rfl, 9, rfl, p, q, n + 1, -9, 9, rfl, S1, by omega, by decide, by decide, fun d1 H2 _ _ S2 B2 => ?_⟩
      refine ⟨_, rfl, p, q, n + 2, 99, rfl, S2, by omega, by decide, by decide, fun d2 H3 a2 b2 S3 B3 => ?_⟩
      obtain ⟨m2, rfl⟩ := Int.eq_ofNat_of_zero_le a2
      have D2 := dig99 ⟨m2, by omega⟩
      refine ⟨_, rfl, D2.1, _, _, rfl, rfl, Nat.le_trans D2.2 (by rw [sizeLine_eq]; decide), by show 2 ≤ sizeLine; decide, fun l hl => ?_⟩
      have sl : Same H3 (upd H3 l (.lst [.int d1, .str (("w" : Str) ++ (toString ((m2 : Nat) : Int) : Str))])) := Same.new hl
      have BB := ((B1.trans B2).trans B3).trans (But.of sl)
      have hk : kn = 0 ∨ kn = 1 := by omega
      rcases hk with rfl | rfl
      · exact ⟨_, rfl, l, _, _, _, rfl, rfl, SqL.of upd_same, rfl, k _ _ (.int _) (fun b e => nomatch e) (fun _ _ _ e => nomatch e) ((S3.same sl).mono (by omega)) BB⟩
      · exact ⟨_, rfl, l, _, _, _, rfl, rfl, SqL.of upd_same, rfl, k _ _ (.str _) (fun b e => nomatch e) (fun _ _ _ e => nomatch e) ((S3.same sl).mono (by omega)) BB⟩
    · refine if_false_of (decide_eq_false c2) ?_
      refine ⟨_, rfl, _, _, rfl, rfl, _, rfl, ?_⟩
      by_cases c5 : ((kn : Nat) : Int) < 5
      · refine if_true_of (decide_eq_true c5) ?_
        refine ⟨_, rfl, p, q, n + 1, 2, rfl, S1, by omega, by decide, by decide, fun d3 H3 _ _ S3 B3 => ⟨rfl, ?_⟩⟩
        refine ⟨_, rfl, p, q, n + 2, 9, rfl, S3, by omega, by decide, by decide, fun d4 H4 _ _ S4 B4 => ⟨by show 2 ≤ sizeLine; decide, fun t ht => ⟨by show 3 ≤ sizeLine; decide, fun l hl => ?_⟩⟩⟩
        have sA : Same H4 (upd H4 t (.tup [.int 1, .int d4])) := Same.new ht
        have sB : Same H4 _ := sA.trans (Same.new (o := .lst [.non, .bl (decide (V.int d3 = V.int 0)), .ref t]) hl)
        have tp := S4.nof (Same.refl _) ht
        have et : upd (upd H4 t (.tup [.int 1, .int d4])) l (.lst [.non, .bl (decide (V.int d3 = V.int 0)), .ref t]) t = some (.tup [.int 1, .int d4]) := (Same.new (o := .lst [.non, .bl (decide (V.int d3 = V.int 0)), .ref t]) hl) _ _ upd_same
        have BB := ((B1.trans B3).trans B4).trans (But.of sB)
        have SS := S4.same sB
        have hk : kn = 2 ∨ kn = 3 ∨ kn = 4 := by omega
        rcases hk with rfl | rfl | rfl
        · exact ⟨_, rfl, _, _, rfl, rfl, l, _, _, _, rfl, rfl, SqL.of upd_same, rfl, k _ _ .non (fun b e => nomatch e) (fun _ _ _ e => nomatch e) (SS.mono (by omega)) BB⟩
        · exact ⟨_, rfl, _, _, rfl, rfl, l, _, _, _, rfl, rfl, SqL.of upd_same, rfl, k _ _ (.bl _) (fun b e => nomatch e) (fun _ _ _ e => nomatch e) (SS.mono (by omega)) BB⟩
        · exact ⟨_, rfl, _, _, rfl, rfl, l, _, _, _, rfl, rfl, SqL.of upd_same, rfl, k _ _ (.tup _ et) (fun b e => by cases e; exact tp) (fun _ _ _ e h => by cases e; rw [et] at h; cases h) (SS.mono (by omega)) BB⟩
      · refine if_false_of (decide_eq_false c5) ?_
        refine ⟨_, rfl, rfl, _, rfl, ?_⟩
        by_cases c6 : V.int ((kn : Nat) : Int) = V.int 5
        · refine if_true_of (decide_eq_true c6) ?_
          refine ⟨_, rfl, p, q, n + 1, 9, rfl, S1, by omega, by decide, by decide, fun d7 H7 _ _ S7 B7 => ⟨by show 1 ≤ sizeLine; decide, fun m hm => ⟨by show 2 ≤ sizeLine; decide, fun r hr' => ?_⟩⟩⟩
          have s7 : Same H7 (upd H7 m (.lst [.int 1])) := Same.new hm
          have s8 : Same H7 (upd (upd H7 m (.lst [.int 1])) r (.lst [.int d7, .ref m])) := s7.trans (Same.new hr')
          refine k _ _ (.lst (m := m) d7 upd_same ((Same.new (o := .lst [.int d7, .ref m]) hr') _ _ upd_same)) (fun b e => by cases e; exact S7.nof s7 hr') (fun _ _ _ e h => by cases e; rw [upd_same] at h; cases h; exact S7.nof (Same.refl _) hm) ((S7.same s8).mono (by omega)) ((B1.trans B7).trans (But.of s8))
        · refine if_false_of (decide_eq_false c6) ?_
          refine fun r hr' => ?_
          have s7 : Same H1 (upd H1 r (.dK [])) := Same.new hr'
          have nr := S1.nof (Same.refl _) hr'
          refine ⟨_, rfl, p, q, n + 1, 9, rfl, S1.same s7, by omega, by decide, by decide, fun d7 H7 _ _ S7 B7 => ?_⟩
          have e7 := B7 _ _ upd_same nr.1 nr.2
          refine ⟨e7, [(Sum.inr "a", .int d7)], rfl, by show 1 ≤ 15; decide, ?_⟩
          have S8 : StAt (upd H7 r (.dK (mergeK [] [(Sum.inr "a", .int d7)]))) p q (n + 2) := by
            obtain ⟨⟨cs, a, b, c, z1, z2, z3⟩, z4⟩ := S7
            exact ⟨⟨cs, a, b, c, by rw [upd_ne nr.1.symm]; exact z1, by rw [upd_ne nr.2.symm]; exact z2, z3⟩, z4⟩
          refine k _ _ (.dic d7 upd_same) (fun b e => by cases e; exact nr) (fun _ _ _ e h => by cases e; rw [upd_same] at h; cases h) (S8.mono (by omega)) (B1.trans fun b o e h1 h2 => ?_)
          rw [upd_ne (ne_of_none e hr')]
          exact B7 b o (s7 _ _ e) h1 h2
end
end K95

set_option Elab.async false
set_option linter.all false
set_option maxRecDepth 100000
set_option maxHeartbeats 4000000
namespace K95
open PySem PySem.Spec PyProof.Rows L2 EV HLC HCX

/-! ### one raised, caught, asked of -/
abbrev N_law_caught : List Str := ["x", "e", "told", "plain"]
section
variable {P : Program} {w : World} {K : PySem.W.Frag} {mg : Str → Option Value} {base : Heap}
structure TEx (K : PySem.W.Frag) : Prop where
  exm : ∀ x ∈ allN, PySem.W.exmOne K (.ref (CA K x)) (.ref (CA K "DeedError")) = some true
theorem takes_no {X : Cx} : L2N.Takes X fun _ _ _ _ => False := fun u s' ⟨_, _, _, _, _, _, _, _, _, _, _, _, _, _, _, _, w⟩ => w.elim
def spCaught : Sp := fun vs H Q _ => ∃ v, vs = [v] ∧ ∀ t l1 l2 H', Same H H' → H' t = some (.tup [.ref l1, .ref l2, .bl false, .bl true]) → H' l1 = some (.lst [.int 4]) → H' l2 = some (.lst []) → Q (.ref t) H'
theorem scCaught : FnScope N_law_caught ["x"] (defScope s_law_caught) := ⟨rfl, rfl, rfl, by decide +kernel, rfl, by decide +kernel, by decide +kernel⟩
theorem delH_old {H : Hp} {a b : Addr} (h : b ≠ a) : delH H a b = H b := if_neg h
theorem ok_caught {f fK fI : Addr} {fd dK dI : FuncData} (F : FnP K "_law_caught" s_law_caught f fd) (T : TCls P w K mg base) (S : TSame mg) (TE' : TEx K) (gve : mg "ValueError" = none)
    (GK : FnOk P w K mg base CX0 1 fK dK ["e"] (spKinds K)) (GKP : FnP2 P w K mg base CX0 2 fK dK ["e"] (spKindsP K)) (gK : mg "_law_kinds_of" = some (.ref fK)) (kK : PySem.W.keepIn K (.ref fK) = true) (bK : L2.Binds K dK ["e"] [])
    (GI : FnOk P w K mg base CX0 1 fI dI ["e"] (spIsOther K)) (gI : mg "_law_is_other" = some (.ref fI)) (kI : PySem.W.keepIn K (.ref fI) = true) (bI : L2.Binds K dI ["e"] []) : FnOk P w K mg base CX0 3 f fd ["x"] spCaught := by
  refine F.ok scCaught (fun vs H Q E h => ?_) (fun cdv A outer s H vs Q E hr h => ?_)
  · obtain ⟨v, rfl, _⟩ := h
    rfl
  · obtain ⟨v, rfl, k⟩ := h
    have hr1 : Room 1 _ := hr.mono (by decide)
    have TI := T.ini ("BadAsks", "index") (by decide +kernel)
    refine ⟨_, PSs.nox (pss_cons (L2N.ps_try_as (i := 1) (c := .ref (CA K "DeedError")) (Wout := fun _ _ _ _ => False)
      (tb := fun W _ σ H0 => tVar 0 σ H0 fun v H1 => ∀ a dx, H1 a = none → H1 dx = none → dx ≠ a → Fr0 H a ∧ W (.ref (CA K "BadAsks")) (some dx) σ (delH (hMk H1 a dx (CA K "BadAsks") "index" v) a))
      (ts := fun a cls d D σ H => ∀ oe, L2N.Zn cls d oe → (∃ vs, oe.data = .fields vs) → tAsg (fun σ H Q => tCons (tVar 1) tNil σ H fun vs H1 => spKindsP K (a, oe) vs H1 Q E0) (gName 2) D σ H)
      rfl rfl scCaught.nd rfl rfl ⟨rfl, by decide, .inl (T.glo "DeedError" (by decide +kernel))⟩ takes_no
      (fun W pn xe tk hp => pss_one (L2N.ps_raise rfl tk (pmk_own TI hr rfl (pv 0) rfl)))
      (fun a oe cls d pn hz hd => ⟨fun pins s σ H D I h => (pss_one (ps_set (i := 2) scCaught.nd rfl (by first | exact .inl rfl | exact .inr rfl) (pe_callP2 GKP (by exact ⟨hr.dp, hr.un⟩) (a, oe) List.mem_cons_self ⟨rfl, hd.choose, hd.choose_spec, hz.2.2 _ hd.choose_spec⟩ (by rfl) gK kK bK (pa_cons (pv 1) pa_nil)))).run pins s σ H D I (h oe hz hd)⟩))
      (pss_cons (ps_set (i := 3) scCaught.nd rfl (by first | exact .inl rfl | exact .inr rfl) (pe_mk0 PySem.F.excBase_ValueError (T.bare "DeedError" (by decide +kernel)).1 (T.glo "DeedError" (by decide +kernel)) (T.bare "DeedError" (by decide +kernel)).2 rfl)) (pss_one (ps_ret (pe_tup (pa_cons (pv 2) (pa_cons (pe_call GK hr1 rfl gK kK bK .nil pass0 (pa_cons (pv 3) pa_nil)) (pa_cons (pe_call GI hr1 rfl gI kI bI .nil pass0 (pa_cons (pv 3) pa_nil)) (pa_cons (pe_callB call_isV (by rfl) S.isi (by decide +kernel) (pa_cons (pv 3) (pa_cons (pe_bltn (v := .ty "ValueError") (by rfl) gve (by decide +kernel) rfl) pa_nil))) pa_nil))))))))), ?_⟩
    refine ⟨_, rfl, fun a dx ha hd hn => ⟨fr0_none ha, true, TE'.exm _ (by decide +kernel), fun _ a' ha' oe hz hvs => ?_, fun z => nomatch z⟩⟩
    have sA : Same H (delH (hMk H a dx (CA K "BadAsks") "index" v) a) := fun b o e => by
      rw [delH_old (ne_of_none e ha)]
      exact hMk_same ha hd _ _ e
    have edx : delH (hMk H a dx (CA K "BadAsks") "index" v) a dx = some (exd dx [("index", v)]) := by
      rw [delH_old hn]
      unfold hMk
      rw [upd_ne hn, upd_same]
    generalize delH (hMk H a dx (CA K "BadAsks") "index" v) a = H1 at sA edx ha' ⊢
    refine ⟨_, rfl, "BadAsks", rfl, by decide +kernel, ⟨hz.1, ⟨dx, _, hz.2.1, edx⟩, hvs⟩, fun l H2 s2 e2 => ?_⟩
    have e2' : H2 l = some (.lst [.int 4]) := e2
    refine fun b hb => ?_
    have sB : Same H2 (upd H2 b (exo b (CA K "DeedError") none)) := Same.new hb
    refine ⟨_, rfl, ?_⟩
    have xb : ExI (upd H2 b (exo b (CA K "DeedError") none)) b (CA K "DeedError") := .inl upd_same
    generalize upd H2 b (exo b (CA K "DeedError") none) = H3 at sB xb ⊢
    refine ⟨_, rfl, b, "DeedError", rfl, by decide +kernel, xb, fun l2 H4 s4 e4 => ?_⟩
    have e4' : H4 l2 = some (.lst []) := e4
    refine ⟨_, rfl, b, "DeedError", rfl, by decide +kernel, xb.same s4, fun H5 s5 => ?_⟩
    refine ⟨_, rfl, b, CA K "DeedError", _, _, _, rfl, T.ecl _ (by decide +kernel), (xb.same s4).same s5, .ty _, T.kitV _ (by decide +kernel), by show 4 ≤ sizeLine; decide, fun t ht => ?_⟩
    rw [isOth_deed]
    have sT : Same H5 (upd H5 t (.tup [.ref l, .ref l2, .bl false, .bl true])) := Same.new ht
    exact k t l l2 _ (((((sA.trans s2).trans sB).trans s4).trans s5).trans sT) upd_same (sT _ _ (s5 _ _ (s4 _ _ (sB _ _ e2')))) (sT _ _ (s5 _ _ e4'))
end
abbrev N_law : List Str := ["script", "state", "k", "at", "one", "two", "made", "kept", "other", "others", "e"]
section
variable {P : Program} {w : World} {K : PySem.W.Frag} {mg : Str → Option Value} {base : Heap}
def spLaw (K : PySem.W.Frag) : Sp := fun vs H Q _ => ∃ (a : Addr) (ns : List Int), vs = [.ref a] ∧ SqL K H a (ns.map V.int) ∧ ∀ H', Q (.bl true) H'
theorem kind_all : ∀ i : Fin 12, (kindN[i.val]?).all (fun x => decide (kindsOf x = [(i.val : Int)]) && !isOth x) = true := by decide +kernel
theorem kind_kinds (i : Fin 12) (x : Str) (e : kindN[i.val]? = some x) : kindsOf x = [(i.val : Int)] ∧ isOth x = false := by
  have h := kind_all i
  rw [e] at h
  have h2 : (decide (kindsOf x = [(i.val : Int)]) && !isOth x) = true := h
  rw [Bool.and_eq_true, decide_eq_true_eq, Bool.not_eq_true'] at h2
  exact h2
theorem kb_deed (x : Str) : kb x "DeedError" = true := by unfold kb; simp
theorem eqv_one (i : Int) : (!PyData.eqv (.list ([i].map PyData.int)) (.list ([i].map PyData.int))) = false := by simp [PyData.eqv, PyData.eqvAll]
theorem eqv_end : PyData.eqv (.tuple [.list [.int 4], .list [], .bool false, .bool true]) (.tuple [.list [.int 4], .list [], .bool false, .bool true]) = true := by simp [PyData.eqv, PyData.eqvAll]
theorem eqv_nil : PyData.eqv (.list []) (.list []) = true := by simp [PyData.eqv, PyData.eqvAll]
theorem scLaw : FnScope N_law ["script"] (defScope s_law) := ⟨rfl, rfl, rfl, by decide +kernel, rfl, by decide +kernel, by decide +kernel⟩
structure TLaw (P : Program) (w : World) (K : PySem.W.Frag) (mg : Str → Option Value) (base : Heap) (fSt fP fK fO fI fM fB fV fC : Addr) (dSt dP dK dO dI dM dB dV dC : FuncData) : Prop where
  gSt : mg "_law_start" = some (.ref fSt)
  kSt : PySem.W.keepIn K (.ref fSt) = true
  bSt : L2.Binds K dSt ["script"] []
  GSt : FnOk P w K mg base CX0 1 fSt dSt ["script"] (spStart K)
  gP : mg "_law_pick" = some (.ref fP)
  kP : PySem.W.keepIn K (.ref fP) = true
  bP : L2.Binds K dP ["state", "many"] []
  GP : FnOk P w K mg base CX0 1 fP dP ["state", "many"] spPick
  gK : mg "_law_kinds_of" = some (.ref fK)
  kK : PySem.W.keepIn K (.ref fK) = true
  bK : L2.Binds K dK ["e"] []
  GK : FnOk P w K mg base CX0 1 fK dK ["e"] (spKinds K)
  gO : mg "_law_others" = some (.ref fO)
  kO : PySem.W.keepIn K (.ref fO) = true
  bO : L2.Binds K dO ["x"] []
  GO : FnOk P w K mg base CX0 3 fO dO ["x"] (spOthers K)
  gI : mg "_law_is_other" = some (.ref fI)
  kI : PySem.W.keepIn K (.ref fI) = true
  bI : L2.Binds K dI ["e"] []
  GI : FnOk P w K mg base CX0 1 fI dI ["e"] (spIsOther K)
  gM : mg "_law_made_at" = some (.ref fM)
  kM : PySem.W.keepIn K (.ref fM) = true
  bM : L2.Binds K dM ["at", "x"] []
  GM : FnOk P w K mg base CX0 4 fM dM ["at", "x"] (spMade K 0 12)
  gB : mg "_law_object" = some (.ref fB)
  kB : PySem.W.keepIn K (.ref fB) = true
  bB : L2.Binds K dB ["state"] []
  GB : FnOk P w K mg base CX0 3 fB dB ["state"] spObj
  gV : mg "_law_very" = some (.ref fV)
  kV : PySem.W.keepIn K (.ref fV) = true
  bV : L2.Binds K dV ["found", "due"] []
  GV : FnOk P w K mg base CX0 4 fV dV ["found", "due"] spVery
  gC : mg "_law_caught" = some (.ref fC)
  kC : PySem.W.keepIn K (.ref fC) = true
  bC : L2.Binds K dC ["x"] []
  GC : FnOk P w K mg base CX0 3 fC dC ["x"] spCaught
theorem Thing.but {H H' : Hp} {p q : Addr} {v : V} (h : Thing H 0 v) (b : But p q H H') (hv : ∀ b, v = .ref b → b ≠ p ∧ b ≠ q) (hm : ∀ l m i, v = .ref l → H l = some (.lst [.int i, .ref m]) → m ≠ p ∧ m ≠ q) : Thing H' 0 v := by
  cases h with
  | non => exact .non
  | bl b => exact .bl b
  | int i => exact .int i
  | str z => exact .str z
  | tup i h => exact .tup i (b _ _ h (hv _ rfl).1 (hv _ rfl).2)
  | lst i h1 h2 =>
    have z := hm _ _ _ rfl h1
    exact .lst i (b _ _ h1 (hv _ rfl).1 (hv _ rfl).2) (b _ _ h2 z.1 z.2)
  | dic i h => exact .dic i (b _ _ h (hv _ rfl).1 (hv _ rfl).2)
theorem StAt.butSame {H H' : Hp} {p q : Addr} {n : Nat} (h : StAt H p q n) (s : Same H H') : StAt H' p q n := h.same s
structure TNot (K : PySem.W.Frag) (mg : Str → Option Value) : Prop where
  ve : mg "ValueError" = none
  ke : mg "KeyError" = none
  ie : mg "IndexError" = none
  te : mg "TypeError" = none
theorem at_expr {σ : L2.St} {H : Hp} {Q : VK} {p q : Addr} {i : Nat} (h1 : σ[1]? = some (some (.ref p))) (h2 : σ[2]? = some (some (.int (0 + (i : Nat))))) (hi : i < 24) (S : StAt H p q (i * 30)) (rest : ∀ (j : Nat) H3, j < 12 → StAt H3 p q (i * 30 + 1) → Q (.int (j : Int)) H3) :
    tIf (tTest (tOp (rI0 fun i j => V.bl (decide (i < j))) (tVar 2) (tC (V.int 12)))) (tOp (rI (fun x j => 0 < j) fun i j => V.int (i % j)) (tCB (fun xs H Q => (∃ i, xs = [V.int i] ∧ Q (V.int i) H) ∨ ∃ k, xs = [V.bl k] ∧ Q (V.int (if k = true then 1 else 0)) H)
      (tCons (tOp (rI0 fun i j => V.int (i + j)) (tVar 2) (tCall spPick [] E0 (tCons (tVar 1) (tCons (tC (V.int 12)) tNil)))) tNil)) (tC (V.int 12))) (tOp (rI0 fun i j => V.int (i - j)) (tVar 2) (tC (V.int 12))) σ H Q := by
  refine ⟨_, h2, _, _, rfl, rfl, _, rfl, ?_⟩
  by_cases c : (0 + (i : Int)) < 12
  · refine if_true_of (decide_eq_true c) ?_
    refine ⟨_, h2, _, h1, p, q, _, 12, rfl, S, by omega, by decide, by decide, fun d H3 d0 d12 S3 _ => ?_⟩
    refine ⟨_, _, rfl, rfl, .inl ⟨_, rfl, _, _, rfl, rfl, (by show (0 : Int) < 12; decide), ?_⟩⟩
    obtain ⟨j, hj⟩ := Int.eq_ofNat_of_zero_le (Int.emod_nonneg (0 + (i : Int) + d) (by decide : (12 : Int) ≠ 0))
    have hl := Int.emod_lt_of_pos (0 + (i : Int) + d) (by decide : (0 : Int) < 12)
    show Q (.int ((0 + (i : Int) + d) % 12)) H3
    rw [hj]
    exact rest j H3 (by omega) S3
  · refine if_false_of (decide_eq_false c) ?_
    refine ⟨_, h2, _, _, rfl, rfl, ?_⟩
    have e : (0 + (i : Int)) - 12 = ((i - 12 : Nat) : Int) := by omega
    show Q (.int (0 + (i : Int) - 12)) H
    rw [e]
    exact rest (i - 12) H (by omega) (S.mono (by omega))
theorem ok_law {f fSt fP fK fO fI fM fB fV fC : Addr} {fd dSt dP dK dO dI dM dB dV dC : FuncData} (F : FnP K "law" s_law f fd) (L : TLaw P w K mg base fSt fP fK fO fI fM fB fV fC dSt dP dK dO dI dM dB dV dC) (T : TCls P w K mg base) (S : TSame mg) (gr : mg "range" = none) (NN : TNot K mg) :
    FnOk P w K mg base CX0 5 f fd ["script"] (spLaw K) := by
  refine F.ok scLaw (fun vs H Q E h => ?_) (fun cdv A outer s H vs Q E hr h => ?_)
  · obtain ⟨a, ns, rfl, _⟩ := h
    rfl
  · obtain ⟨a, ns, rfl, hS, k⟩ := h
    have hr1 : Room 1 _ := hr.mono (by decide)
    have hr3 : Room 3 _ := hr.mono (by decide)
    have kne : ∀ x ∈ allN, PySem.W.kitAny K (.ref (CA K x)) [.type "KeyError", .type "IndexError", .type "TypeError"] = some false := fun x hx =>
      kitAny_cons (T.kitN x hx "KeyError" (by decide)) (fun _ => kitAny_cons (T.kitN x hx "IndexError" (by decide)) (fun _ => kitAny_cons (T.kitN x hx "TypeError" (by decide)) (fun _ => rfl) (fun z => by cases z)) (fun z => by cases z)) (fun z => by cases z)
    refine ⟨_, PSs.nox (pss_cons (ps_set (i := 1) scLaw.nd rfl (by first | exact .inl rfl | exact .inr rfl) (pe_call L.GSt hr1 rfl L.gSt L.kSt L.bSt .nil pass0 (pa_cons (pv 0) pa_nil))) (pss_cons (ps_for PassesOwn.never rfl (pi_range1 (by rfl) gr (pa_cons pe_int pa_nil)) (pg_name (i := 2) scLaw.nd rfl (Or.inl rfl)) (pss_cons (ps_set (i := 3) scLaw.nd rfl (by first | exact .inl rfl | exact .inr rfl) (pe_ifExp (pt_cmpR op_lt (pv 2) pe_int (nomark _)) (pe_op op_mod (pe_callTy call_int1 (by rfl) S.int (by decide +kernel) (pa_cons (pe_op op_add (pv 2) (pe_call L.GP hr1 rfl L.gP L.kP L.bP .nil pass0 (pa_cons (pv 1) (pa_cons pe_int pa_nil)))) pa_nil)) pe_int) (pe_op op_sub (pv 2) pe_int))) (pss_cons (ps_par (i := 4) (j := 5) (by rfl) scLaw.nd rfl rfl (by decide) rfl rfl (pa_cons (pe_call L.GB hr3 rfl L.gB L.kB L.bB .nil pass0 (pa_cons (pv 1) pa_nil)) (pa_cons (pe_call L.GB hr3 rfl L.gB L.kB L.bB .nil pass0 (pa_cons (pv 1) pa_nil)) pa_nil)) (by rfl)) (pss_cons (ps_asg (pe_call L.GM hr rfl L.gM L.kM L.bM .nil pass0 (pa_cons (pv 3) (pa_cons (pv 4) pa_nil))) (pg_tup (by rfl) (pgs_cons (pg_name (i := 6) scLaw.nd rfl (Or.inl rfl)) (pgs_cons (pg_name (i := 7) scLaw.nd rfl (Or.inl rfl)) pgs_nil)))) (pss_cons (ps_asg (pe_call L.GM hr rfl L.gM L.kM L.bM .nil pass0 (pa_cons (pv 3) (pa_cons (pv 5) pa_nil))) (pg_tup (by rfl) (pgs_cons (pg_name (i := 8) scLaw.nd rfl (Or.inl rfl)) (pgs_cons (pg_name (i := 9) scLaw.nd rfl (Or.inl rfl)) pgs_nil)))) (pss_cons (ps_if (PW.pt (pw_or (pt_not (pt_val (pe_callB call_isV (by rfl) S.isi (by decide +kernel) (pa_cons (pv 6) (pa_cons (pe_glob (v := .ref (CA K "DeedError")) rfl (T.glo "DeedError" (by decide +kernel)) rfl) pa_nil))))) (pw_or (pt_not (pt_val (pe_callB call_isV (by rfl) S.isi (by decide +kernel) (pa_cons (pv 6) (pa_cons (pe_bltn (v := .ty "ValueError") (by rfl) NN.ve (by decide +kernel) rfl) pa_nil))))) (pw_or1 (pt_cmpR (op_neD hr.units) (pe_call L.GK hr1 rfl L.gK L.kK L.bK .nil pass0 (pa_cons (pv 6) pa_nil)) (pe_lst (pa_cons (pv 3) pa_nil)) (nomark _)))))) (pss_one (ps_ret pe_bl)) pss_nil) (pss_cons (ps_if (PW.pt (pw_or (pt_val (pe_call L.GI hr1 rfl L.gI L.kI L.bI .nil pass0 (pa_cons (pv 6) pa_nil))) (pw_or (pt_val (pe_callB call_isVT (by rfl) S.isi (by decide +kernel) (pa_cons (pv 6) (pa_cons (pe_tup (pa_cons (pe_bltn (v := .ty "KeyError") (by rfl) NN.ke (by decide +kernel) rfl) (pa_cons (pe_bltn (v := .ty "IndexError") (by rfl) NN.ie (by decide +kernel) rfl) (pa_cons (pe_bltn (v := .ty "TypeError") (by rfl) NN.te (by decide +kernel) rfl) pa_nil)))) pa_nil)))) (pw_or1 (pt_not (pt_val (pe_callB call_isV (by rfl) S.isi (by decide +kernel) (pa_cons (pv 8) (pa_cons (pe_glob (v := .ref (CA K "DeedError")) rfl (T.glo "DeedError" (by decide +kernel)) rfl) pa_nil))))))))) (pss_one (ps_ret pe_bl)) pss_nil) (pss_one (ps_if (PW.pt (pw_or (pt_not (pt_val (pe_call L.GV hr rfl L.gV L.kV L.bV .nil pass0 (pa_cons (pv 7) (pa_cons (pv 4) pa_nil))))) (pw_or1 (pt_not (pt_val (pe_call L.GV hr rfl L.gV L.kV L.bV .nil pass0 (pa_cons (pv 9) (pa_cons (pv 5) pa_nil)))))))) (pss_one (ps_ret pe_bl)) pss_nil))))))))) (pss_cons (ps_if (pt_not (pt_val (pe_callB (cr_all rfl) (by rfl) S.all (by decide +kernel) (pa_cons (pe_lc (own := [("e", 10)]) (g := gName 10) (tt := tYes) (te := tOp (rEqD K) (tCall (spKinds K) [] E0 (tCons (tVar 10) tNil)) (tLst tNil)) (by rfl) scLaw.nd (pi_list (pe_call L.GO hr3 rfl L.gO L.kO L.bO .nil pass0 (pa_cons (pe_call L.GP hr1 rfl L.gP L.kP L.bP .nil pass0 (pa_cons (pv 1) (pa_cons pe_int pa_nil))) pa_nil))) (blkOk_by (own := [("e", 10)]) (N := N_law) (sc := defScope s_law) (by decide +kernel)) (fun _ _ _ _ _ => (pg_name (i := 10) scLaw.nd rfl (Or.inl rfl))) (fun _ _ _ _ _ => pts_nil) (fun _ _ _ _ _ => (pe_cmpR (op_eqD hr.units) (pe_call L.GK hr1 rfl L.gK L.kK L.bK .nil pass0 (pa_cons (pv 10) pa_nil)) (pe_lst pa_nil) (nomark _)))) pa_nil)))) (pss_one (ps_ret pe_bl)) pss_nil) (pss_one (ps_ret (pe_cmpR (op_eqD hr.units) (pe_call L.GC hr3 rfl L.gC L.kC L.bC .nil pass0 (pa_cons (pe_call L.GB hr3 rfl L.gB L.kB L.bB .nil pass0 (pa_cons (pv 1) pa_nil)) pa_nil)) (pe_tup (pa_cons (pe_lst (pa_cons pe_int pa_nil)) (pa_cons (pe_lst pa_nil) (pa_cons pe_bl (pa_cons pe_bl pa_nil))))) (nomark _))))))), ?_⟩
    refine ⟨_, rfl, a, ns, rfl, hS, fun p q H1 s1 S1 _ _ => ?_⟩
    -- for k in range(24)
    refine ⟨24, rfl, by decide, by decide, for_range (n := 24) (fun i σ H' => ∃ a3 a4 a5 a6 a7 a8 a9, ∃ a2, σ = [some (.ref a), some (.ref p), a2, a3, a4, a5, a6, a7, a8, a9, none] ∧ StAt H' p q (i * 30)) ⟨none, none, none, none, none, none, none, none, rfl, S1.mono (by omega)⟩ ?_ ?_⟩
    · rintro i σ H2 hi ⟨a3, a4, a5, a6, a7, a8, a9, a2, rfl, S2⟩
      refine at_expr (p := p) (q := q) (i := i) rfl rfl hi S2 fun j H3 hj S3 => ?_
      -- one, two
      refine ⟨_, rfl, p, q, _, rfl, S3, by omega, fun v H4 hT hv hm S4 B4 => ?_⟩
      refine ⟨_, rfl, p, q, _, rfl, S4, by omega, fun v2 H5 hT2 hv2 hm2 S5 B5 => ⟨_, _, rfl, ?_⟩⟩
      have hT5 : Thing H5 0 v := hT.but B5 hv hm
      -- made, kept
      obtain ⟨x, hxx⟩ : ∃ x, kindN[j]? = some x := ⟨kindN[j]'(by show j < 12; omega), List.getElem?_eq_getElem _⟩
      have hkk := kind_kinds ⟨j, hj⟩ x hxx
      have hx : x ∈ allN := kind_alln x (List.mem_of_getElem? hxx)
      refine ⟨_, rfl, _, rfl, j, v, x, rfl, Nat.zero_le _, by omega, hxx, fun t e H6 M => ?_⟩
      refine ⟨t, _, rfl, SqT.of M.et, rfl, _, _, rfl, _, _, rfl, rfl, ?_⟩
      refine ⟨_, rfl, _, rfl, j, v2, x, rfl, Nat.zero_le _, by omega, hxx, fun t2 e2 H7 M2 => ?_⟩
      refine ⟨t2, _, rfl, SqT.of M2.et, rfl, _, _, rfl, _, _, rfl, rfl, ?_⟩
      have x1 := M.ex.same M2.s
      have x2 := M2.ex
      have T1 := (hT5.same M.s).same M2.s
      have T2 := (hT2.same M.s).same M2.s
      have S7 := (S5.same M.s).same M2.s
      refine ⟨_, rfl, e, CA K x, _, _, _, rfl, T.ecl _ hx, x1, .own _, T.kit _ hx "DeedError" (by decide +kernel), _, rfl, ?_⟩
      rw [kb_deed]
      refine if_false_of rfl ?_
      refine ⟨_, rfl, e, CA K x, _, _, _, rfl, T.ecl _ hx, x1, .ty _, T.kitV _ hx, _, rfl, ?_⟩
      refine if_false_of rfl ?_
      refine ⟨_, rfl, e, x, rfl, hx, x1, fun l H8 s8 e8 => ?_⟩
      rw [hkk.1] at e8
      refine ⟨_, rfl, by show 1 ≤ sizeLine; decide, fun r hr' => ?_⟩
      refine ⟨.list ([(j : Int)].map PyData.int), .list ([(j : Int)].map PyData.int), .lst (SqL.of (Same.new hr' _ _ e8)) (dp_ints _), .lst (SqL.of upd_same) (dp_ints [(j : Int)]), shaped_ints _, shaped_ints _, _, rfl, ?_⟩
      refine if_false_of (eqv_one _) ?_
      have s9 := s8.trans (Same.new (o := .lst [.int (j : Nat)]) hr')
      generalize upd H8 r _ = H9 at s9 ⊢
      refine ⟨_, rfl, e, x, rfl, hx, x1.same s9, fun H10 s10 => ⟨_, rfl, ?_⟩⟩
      rw [hkk.2]
      refine if_false_of rfl ?_
      refine ⟨_, rfl, by show 3 ≤ sizeLine; decide, fun tp htp => ?_⟩
      have s11 := (s9.trans s10).trans (Same.new (o := .tup [.ty "KeyError", .ty "IndexError", .ty "TypeError"]) htp)
      refine ⟨e, CA K x, tp, _, _, _, rfl, upd_same, T.ecl _ hx, x1.same s11, .cons (.ty _) (.cons (.ty _) (.cons (.ty _) .nil)), kne x hx, _, rfl, ?_⟩
      refine if_false_of rfl ?_
      generalize upd H10 tp _ = H11 at s11 ⊢
      refine ⟨_, rfl, e2, CA K x, _, _, _, rfl, T.ecl _ hx, x2.same s11, .own _, T.kit _ hx "DeedError" (by decide +kernel), _, rfl, ?_⟩
      rw [kb_deed]
      refine if_false_of rfl ?_
      refine ⟨_, rfl, _, rfl, v, rfl, T1.same s11, fun H12 s12 => ⟨_, rfl, if_false_of rfl ?_⟩⟩
      refine ⟨_, rfl, _, rfl, v2, rfl, (T2.same s11).same s12, fun H13 s13 => ⟨_, rfl, if_false_of rfl ?_⟩⟩
      exact ⟨_, _, _, _, _, _, _, _, rfl, (((S7.same s11).same s12).same s13).mono (by omega)⟩
    · rintro σ H2 ⟨a3, a4, a5, a6, a7, a8, a9, a2, rfl, S2⟩
      refine ⟨_, rfl, p, q, _, 9, rfl, S2, by omega, by decide, by decide, fun d H3 _ _ S3 _ => ?_⟩
      refine ⟨_, rfl, fun l ys H4 s4 e4 l4 o4 => ?_⟩
      refine ⟨l, rfl, ⟨_, SqL.of e4⟩, fun D hD => ?_⟩
      refine lc_it (walk_list (xs := ys)) (fun c H' => Same H4 H' ∧ H' D = some (.lst (List.replicate c (.bl true)))) ⟨Same.new hD, upd_same⟩ (fun c H' _ z => SqL.of (z.1 _ _ e4)) ?_ ?_
      · rintro c y H7 H8 hc ⟨s7, e7⟩ ⟨rfl, ey⟩
        obtain ⟨e, x, rfl, hx, xe⟩ := o4 y (List.mem_of_getElem? ey)
        have hxa := oth_all x hx
        refine ⟨rfl, ?_⟩
        refine ⟨_, rfl, e, x, rfl, hxa, xe.same s7, fun r H9 s9 e9 => ⟨by show 0 ≤ sizeLine; decide, fun r2 hr2 => ?_⟩⟩
        rw [oth_kinds x hx] at e9
        refine ⟨.list [], .list [], .lst (SqL.of (Same.new hr2 _ _ e9)) .nil, .lst (SqL.of upd_same) .nil, rfl, rfl, ?_⟩
        have sz := s9.trans (Same.new (o := .lst []) hr2)
        refine ⟨_, sz _ _ e7, ?_, ?_, ?_⟩
        · have : c < ys.length := hc
          rw [List.length_replicate, sizeLine_eq]
          omega
        · intro b o e'
          rw [upd_ne (ne_of_none e' hD)]
          exact sz _ _ (s7 _ _ e')
        · rw [upd_same, eqv_nil, ← List.replicate_succ']
      · rintro H7 ⟨s7, e7⟩
        refine ⟨D, List.replicate ys.length true, rfl, SqL.of (by rw [rep_map]; exact e7), _, rfl, ?_⟩
        rw [all_true]
        refine if_false_of rfl ?_
        have S7 := (S3.same s4).same s7
        refine ⟨_, rfl, p, q, _, rfl, S7, by omega, fun v H8 hT hv hm S8 B8 => ?_⟩
        refine ⟨v, rfl, fun t l1 l2 H9 s9 et e1 e2 => ?_⟩
        refine ⟨by show 1 ≤ sizeLine; decide, fun r1 h1 => ⟨by show 0 ≤ sizeLine; decide, fun r2 h2 => ⟨by show 4 ≤ sizeLine; decide, fun r3 h3 => ?_⟩⟩⟩
        have q1 : Same H9 (upd H9 r1 (.lst [.int 4])) := Same.new h1
        have q2 : Same (upd H9 r1 (.lst [.int 4])) (upd (upd H9 r1 (.lst [.int 4])) r2 (.lst [])) := Same.new h2
        have q3 : Same (upd (upd H9 r1 (.lst [.int 4])) r2 (.lst [])) (upd (upd (upd H9 r1 (.lst [.int 4])) r2 (.lst [])) r3 (.tup [.ref r1, .ref r2, .bl false, .bl true])) := Same.new h3
        have qq := (q1.trans q2).trans q3
        refine ⟨.tuple [.list [.int 4], .list [], .bool false, .bool true], .tuple [.list [.int 4], .list [], .bool false, .bool true], .tup (SqT.of (qq _ _ et)) (.cons (.lst (SqL.of (qq _ _ e1)) (.cons (.int 4) .nil)) (.cons (.lst (SqL.of (qq _ _ e2)) .nil) (.cons (.bl false) (.cons (.bl true) .nil)))),
          .tup (SqT.of upd_same) (.cons (.lst (SqL.of (q3 _ _ (q2 _ _ upd_same))) (.cons (.int 4) .nil)) (.cons (.lst (SqL.of (q3 _ _ upd_same)) .nil) (.cons (.bl false) (.cons (.bl true) .nil)))), rfl, rfl, ?_⟩
        rw [eqv_end]
        exact k _
end
end K95

set_option Elab.async false
set_option linter.all false
set_option maxRecDepth 100000
set_option maxHeartbeats 4000000
namespace K95
open PySem PySem.Spec PyProof.Rows L2 EV HLC HCX

/-! ### from the look to the facts -/
structure ObjF (K : PySem.W.Frag) (x : Str) : Prop where
  ex : ∃ dd bs ns q sn sub ab col k0 k1 k2 k3 k5, K.lookup (CA K x) = some (excClassObj x q (CA K x) ns bs (tailOf K x) true sn sub ab col dd k0 k1 k2 k3 k5 "ValueError.__new__")
theorem objB_ok {K : PySem.W.Frag} {x : Str} (h : objB K x = true) : ObjF K x := by
  unfold objB at h
  split at h
  · rename_i dd cd sl ho
    split at h
    · rename_i C' bm k0 k1 k2 k3 n k5 hm hs
      simp only [Bool.and_eq_true, beq_iff_eq, Bool.not_eq_true'] at h
      obtain ⟨h1, h2, h3, h4, h5, h6⟩ := h
      obtain ⟨nm, bs, mro, ns, qn, hd, sn, sub, ab, col, del⟩ := cd
      dsimp only at hm h3 h4 h5
      subst h2 h3 h4 h5 h6
      rw [h1] at hm
      subst hm
      have hsl : sl = #[k0, k1, k2, k3, some (.builtin "ValueError.__new__"), k5] := by
        obtain ⟨l⟩ := sl
        simp only at hs
        rw [hs]
      subst hsl
      exact ⟨dd, bs, ns, qn, sn, sub, ab, col, k0, k1, k2, k3, k5, ho⟩
    · cases h
  · cases h
theorem tail_refs (K : PySem.W.Frag) (x : Str) : PySem.HandSPX.refsVE (tailOf K x) = true := by
  unfold tailOf
  split <;> rfl
theorem ObjF.cls {K : PySem.W.Frag} {x : Str} (h : ObjF K x) : ∃ cd, PySem.W.clsIn K (CA K x) = some cd ∧ cd.mro = .ref (CA K x) :: tailOf K x ∧ cd.name = x ∧ cd.hasDict = true := by
  obtain ⟨dd, bs, ns, q, sn, sub, ab, col, k0, k1, k2, k3, k5, e⟩ := h.ex
  unfold PySem.W.clsIn
  rw [e]
  exact ⟨_, rfl, rfl, rfl, rfl⟩
theorem ObjF.ty {K : PySem.W.Frag} {x : Str} (h : ObjF K x) : PySem.W.typeIn K (.ref (CA K x)) = some (.type "type") := by
  obtain ⟨dd, bs, ns, q, sn, sub, ab, col, k0, k1, k2, k3, k5, e⟩ := h.ex
  show (K.lookup (CA K x)).map (fun o => o.cls) = _
  rw [e] <;> rfl
theorem ObjF.sub {K : PySem.W.Frag} {x : Str} (h : ObjF K x) (v : Value) : PySem.W.mroIn K (CA K x) v = some ((Value.ref (CA K x) :: tailOf K x).contains v) := by
  obtain ⟨cd, h1, h2, _⟩ := h.cls
  unfold PySem.W.mroIn
  rw [h1, Option.bind_some, h2] <;> rfl
theorem tail_ve (K : PySem.W.Frag) (x : Str) (T : String) (h : He.veBase.contains (.type T) = true) : (Value.ref (CA K x) :: tailOf K x).contains (.type T) = true := by
  unfold tailOf
  split
  · rw [List.contains_cons, h, Bool.or_true]
  · rw [List.contains_cons, List.contains_cons, h, Bool.or_true, Bool.or_true]
theorem ObjF.inj {K : PySem.W.Frag} {x y : Str} (h : ObjF K x) (g : ObjF K y) (e : CA K x = CA K y) : x = y := by
  obtain ⟨c1, h1, _, n1, _⟩ := h.cls
  obtain ⟨c2, h2, _, n2, _⟩ := g.cls
  rw [e] at h1
  rw [h1] at h2
  cases h2
  exact n1.symm.trans n2
theorem ve_noref (a : Addr) : He.veBase.contains (.ref a) = false := by
  simp [He.veBase]
theorem ObjF.kit {K : PySem.W.Frag} {x y : Str} (h : ObjF K x) (g : ObjF K y) (gd : ObjF K "DeedError") : PySem.W.kitOne K (.ref (CA K x)) (.ref (CA K y)) = some (kb x y) := by
  unfold PySem.W.kitOne kb
  by_cases e : x = y
  · subst e
    rw [if_pos (by simp)]
    simp
  · have ne : CA K x ≠ CA K y := fun z => e (h.inj g z)
    rw [if_neg (by simp [ne])]
    obtain ⟨cd, h1, _⟩ := g.cls
    have hc : ((PySem.W.clsIn K (CA K y)).isSome && PySem.W.typeIn K (.ref (CA K y)) == some (.type "type")) = true := by rw [h1, g.ty] <;> rfl
    show (if ((PySem.W.clsIn K (CA K y)).isSome && PySem.W.typeIn K (.ref (CA K y)) == some (.type "type")) = true then PySem.W.subIn K (.ref (CA K x)) (.ref (CA K y)) else none) = _
    rw [if_pos hc]
    show PySem.W.mroIn K (CA K x) (.ref (CA K y)) = _
    rw [h.sub, decide_eq_false e, Bool.false_or]
    congr 1
    have n1 : (Value.ref (CA K y) == Value.ref (CA K x)) = false := by simp [Ne.symm ne]
    rw [List.contains_cons, n1, Bool.false_or]
    unfold tailOf
    by_cases ed : x = "DeedError"
    · rw [if_pos ed, ve_noref, decide_eq_false (fun z => e (ed.trans z.symm))]
    · rw [if_neg ed, List.contains_cons, ve_noref, Bool.or_false]
      by_cases ey : y = "DeedError"
      · rw [ey]; simp
      · have nd : CA K y ≠ CA K "DeedError" := fun z => ey (g.inj gd z)
        rw [decide_eq_false ey]
        simp [nd]
theorem all_of {α : Type} {l : List α} {f : α → Bool} (h : l.all f = true) : ∀ x ∈ l, f x = true := List.all_eq_true.mp h
theorem ba {a b : Bool} (h : (a && b) = true) : a = true ∧ b = true := Bool.and_eq_true_iff.mp h
theorem ecls_of {K : PySem.W.Frag} {x : Str} (o : ObjF K x) (sa : PySem.W.findIn K (.ref (CA K x)) "__setattr__" = some (some (.builtin "object.__setattr__"))) (kC : PySem.W.keepIn K (.ref (CA K x)) = true)
    (ga : PySem.W.findIn K (.ref (CA K x)) "__getattribute__" = some (some (.builtin "BaseException.__getattribute__"))) (gg : PySem.W.findIn K (.ref (CA K x)) "__getattr__" = some none)
    (gc : PySem.W.findIn K (.ref (CA K x)) "__class__" = some (some (.builtin "object.__class__"))) (hn : PySem.W.specialIn K (.builtin "object.__class__") "__get__" = some (some (.builtin "getset_descriptor.__get__")))
    (ht : PySem.W.takesIn K (.builtin "object.__class__") = some true) : ECls K (CA K x) where
  oex := by
    obtain ⟨dd, bs, ns, q, sn, sub, ab, col, k0, k1, k2, k3, k5, e⟩ := o.ex
    refine ⟨⟨_, _, _, _, _, _, _, _, _, _, _, _, _, _, _, e, tail_refs K x⟩, sa, ?_, o.ty, kC⟩
    show PySem.W.mroIn K (CA K x) _ = _
    rw [o.sub, tail_ve K x "BaseException" (by decide +kernel)]
  exc := by
    obtain ⟨cd, h1, _, _, h4⟩ := o.cls
    refine ⟨ga, gg, ?_, ?_, gc, hn, ht, ?_⟩
    · show PySem.W.mroIn K (CA K x) _ = _
      rw [o.sub, tail_ve K x "BaseException" (by decide +kernel)]
    · unfold PySem.W.hasDictIn
      rw [h1]
      exact h4
    · rw [o.sub, tail_ve K x "object" (by decide +kernel)]
theorem kitV_of {K : PySem.W.Frag} {x : Str} (o : ObjF K x) : PySem.W.kitOne K (.ref (CA K x)) (.type "ValueError") = some true := by
  unfold PySem.W.kitOne
  rw [if_neg (by simp)]
  show (if PySem.W.kitMeta "ValueError" = true then PySem.W.subIn K (.ref (CA K x)) (.type "ValueError") else none) = _
  rw [if_pos (by decide +kernel)]
  show PySem.W.mroIn K (CA K x) _ = _
  rw [o.sub, tail_ve K x "ValueError" (by decide +kernel)]
theorem tail_no (K : PySem.W.Frag) (x : Str) (T : String) (h : He.veBase.contains (.type T) = false) : (Value.ref (CA K x) :: tailOf K x).contains (.type T) = false := by
  unfold tailOf
  split
  · rw [List.contains_cons, h]; rfl
  · rw [List.contains_cons, List.contains_cons, h]; rfl
theorem kitN_of {K : PySem.W.Frag} {x : Str} (o : ObjF K x) {T : String} (hm : PySem.W.kitMeta T = true) (hv : He.veBase.contains (.type T) = false) : PySem.W.kitOne K (.ref (CA K x)) (.type T) = some false := by
  unfold PySem.W.kitOne
  rw [if_neg (by simp)]
  show (if PySem.W.kitMeta T = true then PySem.W.subIn K (.ref (CA K x)) (.type T) else none) = _
  rw [if_pos hm]
  show PySem.W.mroIn K (CA K x) _ = _
  rw [o.sub, tail_no K x T hv]
theorem exm_of {K : PySem.W.Frag} {x : Str} (o : ObjF K x) (gd : ObjF K "DeedError") (ed : ECls K (CA K "DeedError")) : PySem.W.exmOne K (.ref (CA K x)) (.ref (CA K "DeedError")) = some true := by
  unfold PySem.W.exmOne
  rw [ed.oex.exC, if_pos (by decide)]
  obtain ⟨cd, h1, _⟩ := gd.cls
  have hc : ((PySem.W.clsIn K (CA K "DeedError")).isSome && PySem.W.typeIn K (.ref (CA K "DeedError")) == some (.type "type")) = true := by rw [h1, gd.ty] <;> rfl
  show (if ((PySem.W.clsIn K (CA K "DeedError")).isSome && PySem.W.typeIn K (.ref (CA K "DeedError")) == some (.type "type")) = true then PySem.W.subIn K (.ref (CA K x)) (.ref (CA K "DeedError")) else none) = _
  rw [if_pos hc]
  show PySem.W.mroIn K (CA K x) _ = _
  rw [o.sub]
  congr 1
  unfold tailOf
  by_cases e : x = "DeedError"
  · rw [if_pos e, e]; simp
  · rw [if_neg e]; simp
/-- an __init__ of one field: how it binds -/
theorem kbn_of {K : PySem.W.Frag} {qual fld : Str} {params : Arguments} {body : List Stmt} {scope : Scope} {f : Addr} {fd : FuncData} (F : FunD K "__init__" qual params body scope [] [] f fd)
    (h : ∀ (kV doc pm : Value) (an : Option Addr) (cdv ct u v : Value), bindArgs (PySem.W.fnOf "__init__" qual params body scope .none kV doc pm an cdv ct) ⟨[u], [(fld, v)]⟩ = pure ((["self", fld] : List Str).zip [u, v])) :
    KBn K fd ["self", fld] 1 [fld] (fun us ws => us ++ ws) (fun vs zs => vs ++ zs) where
  to := fun s us ws X l1 l2 => by
    obtain ⟨oc, od, dV, kV, doc, pm, an, cdv, ct, osl, rfl, lk, hcd, hD, hK⟩ := F.ex
    rcases hD with ⟨_, rfl⟩ | ⟨e, _⟩
    · match us, ws, l1, l2 with
      | [u], [v], _, _ => exact .of_eq (h kV doc pm an cdv ct u v)
    · exact absurd rfl e
  rel := fun a b => Vals.append a b
theorem ini_BadOther {P : Program} {w : World} {K : PySem.W.Frag} {mg : Str → Option Value} {base : Heap} {fI : Addr} {fd : FuncData} (F : FunD K "__init__" "BadOther.__init__" (defArgs c_BadOther) (defBody c_BadOther) (defScope c_BadOther) [] [] fI fd) (ec : ECls K (CA K "BadOther")) (no : PySem.W.findIn K (.ref (CA K "BadOther")) "other" = some none) : FnOk P w K mg base CX0 1 fI fd ["self", "other"] (spIni (CA K "BadOther") "other") ∧ L2.Binds K fd ["self", "other"] [] ∧ KBn K fd ["self", "other"] 1 ["other"] (fun us ws => us ++ ws) (fun vs zs => vs ++ zs) :=
  ⟨ok_ini F ec.oex no ⟨rfl, rfl, rfl, by decide +kernel, rfl, by decide +kernel, by decide +kernel⟩ rfl (.inl rfl) (.inl rfl) (by decide) (by decide), FunD.bindsN F (fun _ _ _ _ _ _ us hl => match us, hl with | [_, _], _ => rfl), kbn_of F (fun _ _ _ _ _ _ _ _ => rfl)⟩
theorem ini_BadFormulas {P : Program} {w : World} {K : PySem.W.Frag} {mg : Str → Option Value} {base : Heap} {fI : Addr} {fd : FuncData} (F : FunD K "__init__" "BadFormulas.__init__" (defArgs c_BadFormulas) (defBody c_BadFormulas) (defScope c_BadFormulas) [] [] fI fd) (ec : ECls K (CA K "BadFormulas")) (no : PySem.W.findIn K (.ref (CA K "BadFormulas")) "index" = some none) : FnOk P w K mg base CX0 1 fI fd ["self", "index"] (spIni (CA K "BadFormulas") "index") ∧ L2.Binds K fd ["self", "index"] [] ∧ KBn K fd ["self", "index"] 1 ["index"] (fun us ws => us ++ ws) (fun vs zs => vs ++ zs) :=
  ⟨ok_ini F ec.oex no ⟨rfl, rfl, rfl, by decide +kernel, rfl, by decide +kernel, by decide +kernel⟩ rfl (.inl rfl) (.inl rfl) (by decide) (by decide), FunD.bindsN F (fun _ _ _ _ _ _ us hl => match us, hl with | [_, _], _ => rfl), kbn_of F (fun _ _ _ _ _ _ _ _ => rfl)⟩
theorem ini_BadNumbers {P : Program} {w : World} {K : PySem.W.Frag} {mg : Str → Option Value} {base : Heap} {fI : Addr} {fd : FuncData} (F : FunD K "__init__" "BadNumbers.__init__" (defArgs c_BadNumbers) (defBody c_BadNumbers) (defScope c_BadNumbers) [] [] fI fd) (ec : ECls K (CA K "BadNumbers")) (no : PySem.W.findIn K (.ref (CA K "BadNumbers")) "index" = some none) : FnOk P w K mg base CX0 1 fI fd ["self", "index"] (spIni (CA K "BadNumbers") "index") ∧ L2.Binds K fd ["self", "index"] [] ∧ KBn K fd ["self", "index"] 1 ["index"] (fun us ws => us ++ ws) (fun vs zs => vs ++ zs) :=
  ⟨ok_ini F ec.oex no ⟨rfl, rfl, rfl, by decide +kernel, rfl, by decide +kernel, by decide +kernel⟩ rfl (.inl rfl) (.inl rfl) (by decide) (by decide), FunD.bindsN F (fun _ _ _ _ _ _ us hl => match us, hl with | [_, _], _ => rfl), kbn_of F (fun _ _ _ _ _ _ _ _ => rfl)⟩
theorem ini_BadOthers {P : Program} {w : World} {K : PySem.W.Frag} {mg : Str → Option Value} {base : Heap} {fI : Addr} {fd : FuncData} (F : FunD K "__init__" "BadOthers.__init__" (defArgs c_BadOthers) (defBody c_BadOthers) (defScope c_BadOthers) [] [] fI fd) (ec : ECls K (CA K "BadOthers")) (no : PySem.W.findIn K (.ref (CA K "BadOthers")) "index" = some none) : FnOk P w K mg base CX0 1 fI fd ["self", "index"] (spIni (CA K "BadOthers") "index") ∧ L2.Binds K fd ["self", "index"] [] ∧ KBn K fd ["self", "index"] 1 ["index"] (fun us ws => us ++ ws) (fun vs zs => vs ++ zs) :=
  ⟨ok_ini F ec.oex no ⟨rfl, rfl, rfl, by decide +kernel, rfl, by decide +kernel, by decide +kernel⟩ rfl (.inl rfl) (.inl rfl) (by decide) (by decide), FunD.bindsN F (fun _ _ _ _ _ _ us hl => match us, hl with | [_, _], _ => rfl), kbn_of F (fun _ _ _ _ _ _ _ _ => rfl)⟩
theorem ini_BadPremises {P : Program} {w : World} {K : PySem.W.Frag} {mg : Str → Option Value} {base : Heap} {fI : Addr} {fd : FuncData} (F : FunD K "__init__" "BadPremises.__init__" (defArgs c_BadPremises) (defBody c_BadPremises) (defScope c_BadPremises) [] [] fI fd) (ec : ECls K (CA K "BadPremises")) (no : PySem.W.findIn K (.ref (CA K "BadPremises")) "index" = some none) : FnOk P w K mg base CX0 1 fI fd ["self", "index"] (spIni (CA K "BadPremises") "index") ∧ L2.Binds K fd ["self", "index"] [] ∧ KBn K fd ["self", "index"] 1 ["index"] (fun us ws => us ++ ws) (fun vs zs => vs ++ zs) :=
  ⟨ok_ini F ec.oex no ⟨rfl, rfl, rfl, by decide +kernel, rfl, by decide +kernel, by decide +kernel⟩ rfl (.inl rfl) (.inl rfl) (by decide) (by decide), FunD.bindsN F (fun _ _ _ _ _ _ us hl => match us, hl with | [_, _], _ => rfl), kbn_of F (fun _ _ _ _ _ _ _ _ => rfl)⟩
theorem ini_BadBefore {P : Program} {w : World} {K : PySem.W.Frag} {mg : Str → Option Value} {base : Heap} {fI : Addr} {fd : FuncData} (F : FunD K "__init__" "BadBefore.__init__" (defArgs c_BadBefore) (defBody c_BadBefore) (defScope c_BadBefore) [] [] fI fd) (ec : ECls K (CA K "BadBefore")) (no : PySem.W.findIn K (.ref (CA K "BadBefore")) "before" = some none) : FnOk P w K mg base CX0 1 fI fd ["self", "before"] (spIni (CA K "BadBefore") "before") ∧ L2.Binds K fd ["self", "before"] [] ∧ KBn K fd ["self", "before"] 1 ["before"] (fun us ws => us ++ ws) (fun vs zs => vs ++ zs) :=
  ⟨ok_ini F ec.oex no ⟨rfl, rfl, rfl, by decide +kernel, rfl, by decide +kernel, by decide +kernel⟩ rfl (.inl rfl) (.inl rfl) (by decide) (by decide), FunD.bindsN F (fun _ _ _ _ _ _ us hl => match us, hl with | [_, _], _ => rfl), kbn_of F (fun _ _ _ _ _ _ _ _ => rfl)⟩
theorem ini_BadAfter {P : Program} {w : World} {K : PySem.W.Frag} {mg : Str → Option Value} {base : Heap} {fI : Addr} {fd : FuncData} (F : FunD K "__init__" "BadAfter.__init__" (defArgs c_BadAfter) (defBody c_BadAfter) (defScope c_BadAfter) [] [] fI fd) (ec : ECls K (CA K "BadAfter")) (no : PySem.W.findIn K (.ref (CA K "BadAfter")) "after" = some none) : FnOk P w K mg base CX0 1 fI fd ["self", "after"] (spIni (CA K "BadAfter") "after") ∧ L2.Binds K fd ["self", "after"] [] ∧ KBn K fd ["self", "after"] 1 ["after"] (fun us ws => us ++ ws) (fun vs zs => vs ++ zs) :=
  ⟨ok_ini F ec.oex no ⟨rfl, rfl, rfl, by decide +kernel, rfl, by decide +kernel, by decide +kernel⟩ rfl (.inl rfl) (.inl rfl) (by decide) (by decide), FunD.bindsN F (fun _ _ _ _ _ _ us hl => match us, hl with | [_, _], _ => rfl), kbn_of F (fun _ _ _ _ _ _ _ _ => rfl)⟩
theorem ini_BadOutline {P : Program} {w : World} {K : PySem.W.Frag} {mg : Str → Option Value} {base : Heap} {fI : Addr} {fd : FuncData} (F : FunD K "__init__" "BadOutline.__init__" (defArgs c_BadOutline) (defBody c_BadOutline) (defScope c_BadOutline) [] [] fI fd) (ec : ECls K (CA K "BadOutline")) (no : PySem.W.findIn K (.ref (CA K "BadOutline")) "outline" = some none) : FnOk P w K mg base CX0 1 fI fd ["self", "outline"] (spIni (CA K "BadOutline") "outline") ∧ L2.Binds K fd ["self", "outline"] [] ∧ KBn K fd ["self", "outline"] 1 ["outline"] (fun us ws => us ++ ws) (fun vs zs => vs ++ zs) :=
  ⟨ok_ini F ec.oex no ⟨rfl, rfl, rfl, by decide +kernel, rfl, by decide +kernel, by decide +kernel⟩ rfl (.inl rfl) (.inl rfl) (by decide) (by decide), FunD.bindsN F (fun _ _ _ _ _ _ us hl => match us, hl with | [_, _], _ => rfl), kbn_of F (fun _ _ _ _ _ _ _ _ => rfl)⟩
theorem ini_BadAnswer {P : Program} {w : World} {K : PySem.W.Frag} {mg : Str → Option Value} {base : Heap} {fI : Addr} {fd : FuncData} (F : FunD K "__init__" "BadAnswer.__init__" (defArgs c_BadAnswer) (defBody c_BadAnswer) (defScope c_BadAnswer) [] [] fI fd) (ec : ECls K (CA K "BadAnswer")) (no : PySem.W.findIn K (.ref (CA K "BadAnswer")) "answer" = some none) : FnOk P w K mg base CX0 1 fI fd ["self", "answer"] (spIni (CA K "BadAnswer") "answer") ∧ L2.Binds K fd ["self", "answer"] [] ∧ KBn K fd ["self", "answer"] 1 ["answer"] (fun us ws => us ++ ws) (fun vs zs => vs ++ zs) :=
  ⟨ok_ini F ec.oex no ⟨rfl, rfl, rfl, by decide +kernel, rfl, by decide +kernel, by decide +kernel⟩ rfl (.inl rfl) (.inl rfl) (by decide) (by decide), FunD.bindsN F (fun _ _ _ _ _ _ us hl => match us, hl with | [_, _], _ => rfl), kbn_of F (fun _ _ _ _ _ _ _ _ => rfl)⟩
theorem ini_BadWholeText {P : Program} {w : World} {K : PySem.W.Frag} {mg : Str → Option Value} {base : Heap} {fI : Addr} {fd : FuncData} (F : FunD K "__init__" "BadWholeText.__init__" (defArgs c_BadWholeText) (defBody c_BadWholeText) (defScope c_BadWholeText) [] [] fI fd) (ec : ECls K (CA K "BadWholeText")) (no : PySem.W.findIn K (.ref (CA K "BadWholeText")) "line" = some none) : FnOk P w K mg base CX0 1 fI fd ["self", "line"] (spIni (CA K "BadWholeText") "line") ∧ L2.Binds K fd ["self", "line"] [] ∧ KBn K fd ["self", "line"] 1 ["line"] (fun us ws => us ++ ws) (fun vs zs => vs ++ zs) :=
  ⟨ok_ini F ec.oex no ⟨rfl, rfl, rfl, by decide +kernel, rfl, by decide +kernel, by decide +kernel⟩ rfl (.inl rfl) (.inl rfl) (by decide) (by decide), FunD.bindsN F (fun _ _ _ _ _ _ us hl => match us, hl with | [_, _], _ => rfl), kbn_of F (fun _ _ _ _ _ _ _ _ => rfl)⟩
theorem ini_BadRounds {P : Program} {w : World} {K : PySem.W.Frag} {mg : Str → Option Value} {base : Heap} {fI : Addr} {fd : FuncData} (F : FunD K "__init__" "BadRounds.__init__" (defArgs c_BadRounds) (defBody c_BadRounds) (defScope c_BadRounds) [] [] fI fd) (ec : ECls K (CA K "BadRounds")) (no : PySem.W.findIn K (.ref (CA K "BadRounds")) "rounds" = some none) : FnOk P w K mg base CX0 1 fI fd ["self", "rounds"] (spIni (CA K "BadRounds") "rounds") ∧ L2.Binds K fd ["self", "rounds"] [] ∧ KBn K fd ["self", "rounds"] 1 ["rounds"] (fun us ws => us ++ ws) (fun vs zs => vs ++ zs) :=
  ⟨ok_ini F ec.oex no ⟨rfl, rfl, rfl, by decide +kernel, rfl, by decide +kernel, by decide +kernel⟩ rfl (.inl rfl) (.inl rfl) (by decide) (by decide), FunD.bindsN F (fun _ _ _ _ _ _ us hl => match us, hl with | [_, _], _ => rfl), kbn_of F (fun _ _ _ _ _ _ _ _ => rfl)⟩
theorem ini_HasTest {P : Program} {w : World} {K : PySem.W.Frag} {mg : Str → Option Value} {base : Heap} {fI : Addr} {fd : FuncData} (F : FunD K "__init__" "HasTest.__init__" (defArgs c_HasTest) (defBody c_HasTest) (defScope c_HasTest) [] [] fI fd) (ec : ECls K (CA K "HasTest")) (no : PySem.W.findIn K (.ref (CA K "HasTest")) "program" = some none) : FnOk P w K mg base CX0 1 fI fd ["self", "program"] (spIni (CA K "HasTest") "program") ∧ L2.Binds K fd ["self", "program"] [] ∧ KBn K fd ["self", "program"] 1 ["program"] (fun us ws => us ++ ws) (fun vs zs => vs ++ zs) :=
  ⟨ok_ini F ec.oex no ⟨rfl, rfl, rfl, by decide +kernel, rfl, by decide +kernel, by decide +kernel⟩ rfl (.inl rfl) (.inl rfl) (by decide) (by decide), FunD.bindsN F (fun _ _ _ _ _ _ us hl => match us, hl with | [_, _], _ => rfl), kbn_of F (fun _ _ _ _ _ _ _ _ => rfl)⟩
theorem ini_BadChanges {P : Program} {w : World} {K : PySem.W.Frag} {mg : Str → Option Value} {base : Heap} {fI : Addr} {fd : FuncData} (F : FunD K "__init__" "BadChanges.__init__" (defArgs c_BadChanges) (defBody c_BadChanges) (defScope c_BadChanges) [] [] fI fd) (ec : ECls K (CA K "BadChanges")) (no : PySem.W.findIn K (.ref (CA K "BadChanges")) "index" = some none) : FnOk P w K mg base CX0 1 fI fd ["self", "index"] (spIni (CA K "BadChanges") "index") ∧ L2.Binds K fd ["self", "index"] [] ∧ KBn K fd ["self", "index"] 1 ["index"] (fun us ws => us ++ ws) (fun vs zs => vs ++ zs) :=
  ⟨ok_ini F ec.oex no ⟨rfl, rfl, rfl, by decide +kernel, rfl, by decide +kernel, by decide +kernel⟩ rfl (.inl rfl) (.inl rfl) (by decide) (by decide), FunD.bindsN F (fun _ _ _ _ _ _ us hl => match us, hl with | [_, _], _ => rfl), kbn_of F (fun _ _ _ _ _ _ _ _ => rfl)⟩
theorem ini_BadPrices {P : Program} {w : World} {K : PySem.W.Frag} {mg : Str → Option Value} {base : Heap} {fI : Addr} {fd : FuncData} (F : FunD K "__init__" "BadPrices.__init__" (defArgs c_BadPrices) (defBody c_BadPrices) (defScope c_BadPrices) [] [] fI fd) (ec : ECls K (CA K "BadPrices")) (no : PySem.W.findIn K (.ref (CA K "BadPrices")) "prices" = some none) : FnOk P w K mg base CX0 1 fI fd ["self", "prices"] (spIni (CA K "BadPrices") "prices") ∧ L2.Binds K fd ["self", "prices"] [] ∧ KBn K fd ["self", "prices"] 1 ["prices"] (fun us ws => us ++ ws) (fun vs zs => vs ++ zs) :=
  ⟨ok_ini F ec.oex no ⟨rfl, rfl, rfl, by decide +kernel, rfl, by decide +kernel, by decide +kernel⟩ rfl (.inl rfl) (.inl rfl) (by decide) (by decide), FunD.bindsN F (fun _ _ _ _ _ _ us hl => match us, hl with | [_, _], _ => rfl), kbn_of F (fun _ _ _ _ _ _ _ _ => rfl)⟩
theorem ini_BadUnsure {P : Program} {w : World} {K : PySem.W.Frag} {mg : Str → Option Value} {base : Heap} {fI : Addr} {fd : FuncData} (F : FunD K "__init__" "BadUnsure.__init__" (defArgs c_BadUnsure) (defBody c_BadUnsure) (defScope c_BadUnsure) [] [] fI fd) (ec : ECls K (CA K "BadUnsure")) (no : PySem.W.findIn K (.ref (CA K "BadUnsure")) "index" = some none) : FnOk P w K mg base CX0 1 fI fd ["self", "index"] (spIni (CA K "BadUnsure") "index") ∧ L2.Binds K fd ["self", "index"] [] ∧ KBn K fd ["self", "index"] 1 ["index"] (fun us ws => us ++ ws) (fun vs zs => vs ++ zs) :=
  ⟨ok_ini F ec.oex no ⟨rfl, rfl, rfl, by decide +kernel, rfl, by decide +kernel, by decide +kernel⟩ rfl (.inl rfl) (.inl rfl) (by decide) (by decide), FunD.bindsN F (fun _ _ _ _ _ _ us hl => match us, hl with | [_, _], _ => rfl), kbn_of F (fun _ _ _ _ _ _ _ _ => rfl)⟩
theorem ini_BadPlaces {P : Program} {w : World} {K : PySem.W.Frag} {mg : Str → Option Value} {base : Heap} {fI : Addr} {fd : FuncData} (F : FunD K "__init__" "BadPlaces.__init__" (defArgs c_BadPlaces) (defBody c_BadPlaces) (defScope c_BadPlaces) [] [] fI fd) (ec : ECls K (CA K "BadPlaces")) (no : PySem.W.findIn K (.ref (CA K "BadPlaces")) "index" = some none) : FnOk P w K mg base CX0 1 fI fd ["self", "index"] (spIni (CA K "BadPlaces") "index") ∧ L2.Binds K fd ["self", "index"] [] ∧ KBn K fd ["self", "index"] 1 ["index"] (fun us ws => us ++ ws) (fun vs zs => vs ++ zs) :=
  ⟨ok_ini F ec.oex no ⟨rfl, rfl, rfl, by decide +kernel, rfl, by decide +kernel, by decide +kernel⟩ rfl (.inl rfl) (.inl rfl) (by decide) (by decide), FunD.bindsN F (fun _ _ _ _ _ _ us hl => match us, hl with | [_, _], _ => rfl), kbn_of F (fun _ _ _ _ _ _ _ _ => rfl)⟩
theorem ini_BadAsks {P : Program} {w : World} {K : PySem.W.Frag} {mg : Str → Option Value} {base : Heap} {fI : Addr} {fd : FuncData} (F : FunD K "__init__" "BadAsks.__init__" (defArgs c_BadAsks) (defBody c_BadAsks) (defScope c_BadAsks) [] [] fI fd) (ec : ECls K (CA K "BadAsks")) (no : PySem.W.findIn K (.ref (CA K "BadAsks")) "index" = some none) : FnOk P w K mg base CX0 1 fI fd ["self", "index"] (spIni (CA K "BadAsks") "index") ∧ L2.Binds K fd ["self", "index"] [] ∧ KBn K fd ["self", "index"] 1 ["index"] (fun us ws => us ++ ws) (fun vs zs => vs ++ zs) :=
  ⟨ok_ini F ec.oex no ⟨rfl, rfl, rfl, by decide +kernel, rfl, by decide +kernel, by decide +kernel⟩ rfl (.inl rfl) (.inl rfl) (by decide) (by decide), FunD.bindsN F (fun _ _ _ _ _ _ us hl => match us, hl with | [_, _], _ => rfl), kbn_of F (fun _ _ _ _ _ _ _ _ => rfl)⟩
theorem ini_NotApart {P : Program} {w : World} {K : PySem.W.Frag} {mg : Str → Option Value} {base : Heap} {fI : Addr} {fd : FuncData} (F : FunD K "__init__" "NotApart.__init__" (defArgs c_NotApart) (defBody c_NotApart) (defScope c_NotApart) [] [] fI fd) (ec : ECls K (CA K "NotApart")) (no : PySem.W.findIn K (.ref (CA K "NotApart")) "index" = some none) : FnOk P w K mg base CX0 1 fI fd ["self", "index"] (spIni (CA K "NotApart") "index") ∧ L2.Binds K fd ["self", "index"] [] ∧ KBn K fd ["self", "index"] 1 ["index"] (fun us ws => us ++ ws) (fun vs zs => vs ++ zs) :=
  ⟨ok_ini F ec.oex no ⟨rfl, rfl, rfl, by decide +kernel, rfl, by decide +kernel, by decide +kernel⟩ rfl (.inl rfl) (.inl rfl) (by decide) (by decide), FunD.bindsN F (fun _ _ _ _ _ _ us hl => match us, hl with | [_, _], _ => rfl), kbn_of F (fun _ _ _ _ _ _ _ _ => rfl)⟩
theorem ini_BadStrategy {P : Program} {w : World} {K : PySem.W.Frag} {mg : Str → Option Value} {base : Heap} {fI : Addr} {fd : FuncData} (F : FunD K "__init__" "BadStrategy.__init__" (defArgs c_BadStrategy) (defBody c_BadStrategy) (defScope c_BadStrategy) [] [] fI fd) (ec : ECls K (CA K "BadStrategy")) (no : PySem.W.findIn K (.ref (CA K "BadStrategy")) "strategy" = some none) : FnOk P w K mg base CX0 1 fI fd ["self", "strategy"] (spIni (CA K "BadStrategy") "strategy") ∧ L2.Binds K fd ["self", "strategy"] [] ∧ KBn K fd ["self", "strategy"] 1 ["strategy"] (fun us ws => us ++ ws) (fun vs zs => vs ++ zs) :=
  ⟨ok_ini F ec.oex no ⟨rfl, rfl, rfl, by decide +kernel, rfl, by decide +kernel, by decide +kernel⟩ rfl (.inl rfl) (.inl rfl) (by decide) (by decide), FunD.bindsN F (fun _ _ _ _ _ _ us hl => match us, hl with | [_, _], _ => rfl), kbn_of F (fun _ _ _ _ _ _ _ _ => rfl)⟩
theorem ini_BadEdit {P : Program} {w : World} {K : PySem.W.Frag} {mg : Str → Option Value} {base : Heap} {fI : Addr} {fd : FuncData} (F : FunD K "__init__" "BadEdit.__init__" (defArgs c_BadEdit) (defBody c_BadEdit) (defScope c_BadEdit) [] [] fI fd) (ec : ECls K (CA K "BadEdit")) (no : PySem.W.findIn K (.ref (CA K "BadEdit")) "edit" = some none) : FnOk P w K mg base CX0 1 fI fd ["self", "edit"] (spIni (CA K "BadEdit") "edit") ∧ L2.Binds K fd ["self", "edit"] [] ∧ KBn K fd ["self", "edit"] 1 ["edit"] (fun us ws => us ++ ws) (fun vs zs => vs ++ zs) :=
  ⟨ok_ini F ec.oex no ⟨rfl, rfl, rfl, by decide +kernel, rfl, by decide +kernel, by decide +kernel⟩ rfl (.inl rfl) (.inl rfl) (by decide) (by decide), FunD.bindsN F (fun _ _ _ _ _ _ us hl => match us, hl with | [_, _], _ => rfl), kbn_of F (fun _ _ _ _ _ _ _ _ => rfl)⟩
theorem ini_BadDesk {P : Program} {w : World} {K : PySem.W.Frag} {mg : Str → Option Value} {base : Heap} {fI : Addr} {fd : FuncData} (F : FunD K "__init__" "BadDesk.__init__" (defArgs c_BadDesk) (defBody c_BadDesk) (defScope c_BadDesk) [] [] fI fd) (ec : ECls K (CA K "BadDesk")) (no : PySem.W.findIn K (.ref (CA K "BadDesk")) "desk" = some none) : FnOk P w K mg base CX0 1 fI fd ["self", "desk"] (spIni (CA K "BadDesk") "desk") ∧ L2.Binds K fd ["self", "desk"] [] ∧ KBn K fd ["self", "desk"] 1 ["desk"] (fun us ws => us ++ ws) (fun vs zs => vs ++ zs) :=
  ⟨ok_ini F ec.oex no ⟨rfl, rfl, rfl, by decide +kernel, rfl, by decide +kernel, by decide +kernel⟩ rfl (.inl rfl) (.inl rfl) (by decide) (by decide), FunD.bindsN F (fun _ _ _ _ _ _ us hl => match us, hl with | [_, _], _ => rfl), kbn_of F (fun _ _ _ _ _ _ _ _ => rfl)⟩
theorem ini_BadDeskText {P : Program} {w : World} {K : PySem.W.Frag} {mg : Str → Option Value} {base : Heap} {fI : Addr} {fd : FuncData} (F : FunD K "__init__" "BadDeskText.__init__" (defArgs c_BadDeskText) (defBody c_BadDeskText) (defScope c_BadDeskText) [] [] fI fd) (ec : ECls K (CA K "BadDeskText")) (no : PySem.W.findIn K (.ref (CA K "BadDeskText")) "line" = some none) : FnOk P w K mg base CX0 1 fI fd ["self", "line"] (spIni (CA K "BadDeskText") "line") ∧ L2.Binds K fd ["self", "line"] [] ∧ KBn K fd ["self", "line"] 1 ["line"] (fun us ws => us ++ ws) (fun vs zs => vs ++ zs) :=
  ⟨ok_ini F ec.oex no ⟨rfl, rfl, rfl, by decide +kernel, rfl, by decide +kernel, by decide +kernel⟩ rfl (.inl rfl) (.inl rfl) (by decide) (by decide), FunD.bindsN F (fun _ _ _ _ _ _ us hl => match us, hl with | [_, _], _ => rfl), kbn_of F (fun _ _ _ _ _ _ _ _ => rfl)⟩
theorem ini_BadFormula {P : Program} {w : World} {K : PySem.W.Frag} {mg : Str → Option Value} {base : Heap} {fI : Addr} {fd : FuncData} (F : FunD K "__init__" "BadFormula.__init__" (defArgs c_BadFormula) (defBody c_BadFormula) (defScope c_BadFormula) [] [] fI fd) (ec : ECls K (CA K "BadFormula")) (no : PySem.W.findIn K (.ref (CA K "BadFormula")) "formula" = some none) : FnOk P w K mg base CX0 1 fI fd ["self", "formula"] (spIni (CA K "BadFormula") "formula") ∧ L2.Binds K fd ["self", "formula"] [] ∧ KBn K fd ["self", "formula"] 1 ["formula"] (fun us ws => us ++ ws) (fun vs zs => vs ++ zs) :=
  ⟨ok_ini F ec.oex no ⟨rfl, rfl, rfl, by decide +kernel, rfl, by decide +kernel, by decide +kernel⟩ rfl (.inl rfl) (.inl rfl) (by decide) (by decide), FunD.bindsN F (fun _ _ _ _ _ _ us hl => match us, hl with | [_, _], _ => rfl), kbn_of F (fun _ _ _ _ _ _ _ _ => rfl)⟩
theorem ini_BadProgram {P : Program} {w : World} {K : PySem.W.Frag} {mg : Str → Option Value} {base : Heap} {fI : Addr} {fd : FuncData} (F : FunD K "__init__" "BadProgram.__init__" (defArgs c_BadProgram) (defBody c_BadProgram) (defScope c_BadProgram) [] [] fI fd) (ec : ECls K (CA K "BadProgram")) (no : PySem.W.findIn K (.ref (CA K "BadProgram")) "program" = some none) : FnOk P w K mg base CX0 1 fI fd ["self", "program"] (spIni (CA K "BadProgram") "program") ∧ L2.Binds K fd ["self", "program"] [] ∧ KBn K fd ["self", "program"] 1 ["program"] (fun us ws => us ++ ws) (fun vs zs => vs ++ zs) :=
  ⟨ok_ini F ec.oex no ⟨rfl, rfl, rfl, by decide +kernel, rfl, by decide +kernel, by decide +kernel⟩ rfl (.inl rfl) (.inl rfl) (by decide) (by decide), FunD.bindsN F (fun _ _ _ _ _ _ us hl => match us, hl with | [_, _], _ => rfl), kbn_of F (fun _ _ _ _ _ _ _ _ => rfl)⟩
theorem ini_BadPlace {P : Program} {w : World} {K : PySem.W.Frag} {mg : Str → Option Value} {base : Heap} {fI : Addr} {fd : FuncData} (F : FunD K "__init__" "BadPlace.__init__" (defArgs c_BadPlace) (defBody c_BadPlace) (defScope c_BadPlace) [] [] fI fd) (ec : ECls K (CA K "BadPlace")) (no : PySem.W.findIn K (.ref (CA K "BadPlace")) "place" = some none) : FnOk P w K mg base CX0 1 fI fd ["self", "place"] (spIni (CA K "BadPlace") "place") ∧ L2.Binds K fd ["self", "place"] [] ∧ KBn K fd ["self", "place"] 1 ["place"] (fun us ws => us ++ ws) (fun vs zs => vs ++ zs) :=
  ⟨ok_ini F ec.oex no ⟨rfl, rfl, rfl, by decide +kernel, rfl, by decide +kernel, by decide +kernel⟩ rfl (.inl rfl) (.inl rfl) (by decide) (by decide), FunD.bindsN F (fun _ _ _ _ _ _ us hl => match us, hl with | [_, _], _ => rfl), kbn_of F (fun _ _ _ _ _ _ _ _ => rfl)⟩
theorem ini_BadForm {P : Program} {w : World} {K : PySem.W.Frag} {mg : Str → Option Value} {base : Heap} {fI : Addr} {fd : FuncData} (F : FunD K "__init__" "BadForm.__init__" (defArgs c_BadForm) (defBody c_BadForm) (defScope c_BadForm) [] [] fI fd) (ec : ECls K (CA K "BadForm")) (no : PySem.W.findIn K (.ref (CA K "BadForm")) "form" = some none) : FnOk P w K mg base CX0 1 fI fd ["self", "form"] (spIni (CA K "BadForm") "form") ∧ L2.Binds K fd ["self", "form"] [] ∧ KBn K fd ["self", "form"] 1 ["form"] (fun us ws => us ++ ws) (fun vs zs => vs ++ zs) :=
  ⟨ok_ini F ec.oex no ⟨rfl, rfl, rfl, by decide +kernel, rfl, by decide +kernel, by decide +kernel⟩ rfl (.inl rfl) (.inl rfl) (by decide) (by decide), FunD.bindsN F (fun _ _ _ _ _ _ us hl => match us, hl with | [_, _], _ => rfl), kbn_of F (fun _ _ _ _ _ _ _ _ => rfl)⟩
theorem ini_BadModel {P : Program} {w : World} {K : PySem.W.Frag} {mg : Str → Option Value} {base : Heap} {fI : Addr} {fd : FuncData} (F : FunD K "__init__" "BadModel.__init__" (defArgs c_BadModel) (defBody c_BadModel) (defScope c_BadModel) [] [] fI fd) (ec : ECls K (CA K "BadModel")) (no : PySem.W.findIn K (.ref (CA K "BadModel")) "model" = some none) : FnOk P w K mg base CX0 1 fI fd ["self", "model"] (spIni (CA K "BadModel") "model") ∧ L2.Binds K fd ["self", "model"] [] ∧ KBn K fd ["self", "model"] 1 ["model"] (fun us ws => us ++ ws) (fun vs zs => vs ++ zs) :=
  ⟨ok_ini F ec.oex no ⟨rfl, rfl, rfl, by decide +kernel, rfl, by decide +kernel, by decide +kernel⟩ rfl (.inl rfl) (.inl rfl) (by decide) (by decide), FunD.bindsN F (fun _ _ _ _ _ _ us hl => match us, hl with | [_, _], _ => rfl), kbn_of F (fun _ _ _ _ _ _ _ _ => rfl)⟩
theorem ini_BadNumber {P : Program} {w : World} {K : PySem.W.Frag} {mg : Str → Option Value} {base : Heap} {fI : Addr} {fd : FuncData} (F : FunD K "__init__" "BadNumber.__init__" (defArgs c_BadNumber) (defBody c_BadNumber) (defScope c_BadNumber) [] [] fI fd) (ec : ECls K (CA K "BadNumber")) (no : PySem.W.findIn K (.ref (CA K "BadNumber")) "number" = some none) : FnOk P w K mg base CX0 1 fI fd ["self", "number"] (spIni (CA K "BadNumber") "number") ∧ L2.Binds K fd ["self", "number"] [] ∧ KBn K fd ["self", "number"] 1 ["number"] (fun us ws => us ++ ws) (fun vs zs => vs ++ zs) :=
  ⟨ok_ini F ec.oex no ⟨rfl, rfl, rfl, by decide +kernel, rfl, by decide +kernel, by decide +kernel⟩ rfl (.inl rfl) (.inl rfl) (by decide) (by decide), FunD.bindsN F (fun _ _ _ _ _ _ us hl => match us, hl with | [_, _], _ => rfl), kbn_of F (fun _ _ _ _ _ _ _ _ => rfl)⟩
theorem ini_BadFormulaText {P : Program} {w : World} {K : PySem.W.Frag} {mg : Str → Option Value} {base : Heap} {fI : Addr} {fd : FuncData} (F : FunD K "__init__" "BadFormulaText.__init__" (defArgs c_BadFormulaText) (defBody c_BadFormulaText) (defScope c_BadFormulaText) [] [] fI fd) (ec : ECls K (CA K "BadFormulaText")) (no : PySem.W.findIn K (.ref (CA K "BadFormulaText")) "number" = some none) : FnOk P w K mg base CX0 1 fI fd ["self", "number"] (spIni (CA K "BadFormulaText") "number") ∧ L2.Binds K fd ["self", "number"] [] ∧ KBn K fd ["self", "number"] 1 ["number"] (fun us ws => us ++ ws) (fun vs zs => vs ++ zs) :=
  ⟨ok_ini F ec.oex no ⟨rfl, rfl, rfl, by decide +kernel, rfl, by decide +kernel, by decide +kernel⟩ rfl (.inl rfl) (.inl rfl) (by decide) (by decide), FunD.bindsN F (fun _ _ _ _ _ _ us hl => match us, hl with | [_, _], _ => rfl), kbn_of F (fun _ _ _ _ _ _ _ _ => rfl)⟩
theorem ini_BadProgramText {P : Program} {w : World} {K : PySem.W.Frag} {mg : Str → Option Value} {base : Heap} {fI : Addr} {fd : FuncData} (F : FunD K "__init__" "BadProgramText.__init__" (defArgs c_BadProgramText) (defBody c_BadProgramText) (defScope c_BadProgramText) [] [] fI fd) (ec : ECls K (CA K "BadProgramText")) (no : PySem.W.findIn K (.ref (CA K "BadProgramText")) "number" = some none) : FnOk P w K mg base CX0 1 fI fd ["self", "number"] (spIni (CA K "BadProgramText") "number") ∧ L2.Binds K fd ["self", "number"] [] ∧ KBn K fd ["self", "number"] 1 ["number"] (fun us ws => us ++ ws) (fun vs zs => vs ++ zs) :=
  ⟨ok_ini F ec.oex no ⟨rfl, rfl, rfl, by decide +kernel, rfl, by decide +kernel, by decide +kernel⟩ rfl (.inl rfl) (.inl rfl) (by decide) (by decide), FunD.bindsN F (fun _ _ _ _ _ _ us hl => match us, hl with | [_, _], _ => rfl), kbn_of F (fun _ _ _ _ _ _ _ _ => rfl)⟩
theorem ini_BadModelText {P : Program} {w : World} {K : PySem.W.Frag} {mg : Str → Option Value} {base : Heap} {fI : Addr} {fd : FuncData} (F : FunD K "__init__" "BadModelText.__init__" (defArgs c_BadModelText) (defBody c_BadModelText) (defScope c_BadModelText) [] [] fI fd) (ec : ECls K (CA K "BadModelText")) (no : PySem.W.findIn K (.ref (CA K "BadModelText")) "line" = some none) : FnOk P w K mg base CX0 1 fI fd ["self", "line"] (spIni (CA K "BadModelText") "line") ∧ L2.Binds K fd ["self", "line"] [] ∧ KBn K fd ["self", "line"] 1 ["line"] (fun us ws => us ++ ws) (fun vs zs => vs ++ zs) :=
  ⟨ok_ini F ec.oex no ⟨rfl, rfl, rfl, by decide +kernel, rfl, by decide +kernel, by decide +kernel⟩ rfl (.inl rfl) (.inl rfl) (by decide) (by decide), FunD.bindsN F (fun _ _ _ _ _ _ us hl => match us, hl with | [_, _], _ => rfl), kbn_of F (fun _ _ _ _ _ _ _ _ => rfl)⟩
theorem ini_BadRun {P : Program} {w : World} {K : PySem.W.Frag} {mg : Str → Option Value} {base : Heap} {fI : Addr} {fd : FuncData} (F : FunD K "__init__" "BadRun.__init__" (defArgs c_BadRun) (defBody c_BadRun) (defScope c_BadRun) [] [] fI fd) (ec : ECls K (CA K "BadRun")) (no : PySem.W.findIn K (.ref (CA K "BadRun")) "run" = some none) : FnOk P w K mg base CX0 1 fI fd ["self", "run"] (spIni (CA K "BadRun") "run") ∧ L2.Binds K fd ["self", "run"] [] ∧ KBn K fd ["self", "run"] 1 ["run"] (fun us ws => us ++ ws) (fun vs zs => vs ++ zs) :=
  ⟨ok_ini F ec.oex no ⟨rfl, rfl, rfl, by decide +kernel, rfl, by decide +kernel, by decide +kernel⟩ rfl (.inl rfl) (.inl rfl) (by decide) (by decide), FunD.bindsN F (fun _ _ _ _ _ _ us hl => match us, hl with | [_, _], _ => rfl), kbn_of F (fun _ _ _ _ _ _ _ _ => rfl)⟩
theorem ini_BadMany {P : Program} {w : World} {K : PySem.W.Frag} {mg : Str → Option Value} {base : Heap} {fI : Addr} {fd : FuncData} (F : FunD K "__init__" "BadMany.__init__" (defArgs c_BadMany) (defBody c_BadMany) (defScope c_BadMany) [] [] fI fd) (ec : ECls K (CA K "BadMany")) (no : PySem.W.findIn K (.ref (CA K "BadMany")) "many" = some none) : FnOk P w K mg base CX0 1 fI fd ["self", "many"] (spIni (CA K "BadMany") "many") ∧ L2.Binds K fd ["self", "many"] [] ∧ KBn K fd ["self", "many"] 1 ["many"] (fun us ws => us ++ ws) (fun vs zs => vs ++ zs) :=
  ⟨ok_ini F ec.oex no ⟨rfl, rfl, rfl, by decide +kernel, rfl, by decide +kernel, by decide +kernel⟩ rfl (.inl rfl) (.inl rfl) (by decide) (by decide), FunD.bindsN F (fun _ _ _ _ _ _ us hl => match us, hl with | [_, _], _ => rfl), kbn_of F (fun _ _ _ _ _ _ _ _ => rfl)⟩
theorem ini_BadRest {P : Program} {w : World} {K : PySem.W.Frag} {mg : Str → Option Value} {base : Heap} {fI : Addr} {fd : FuncData} (F : FunD K "__init__" "BadRest.__init__" (defArgs c_BadRest) (defBody c_BadRest) (defScope c_BadRest) [] [] fI fd) (ec : ECls K (CA K "BadRest")) (no : PySem.W.findIn K (.ref (CA K "BadRest")) "index" = some none) : FnOk P w K mg base CX0 1 fI fd ["self", "index"] (spIni (CA K "BadRest") "index") ∧ L2.Binds K fd ["self", "index"] [] ∧ KBn K fd ["self", "index"] 1 ["index"] (fun us ws => us ++ ws) (fun vs zs => vs ++ zs) :=
  ⟨ok_ini F ec.oex no ⟨rfl, rfl, rfl, by decide +kernel, rfl, by decide +kernel, by decide +kernel⟩ rfl (.inl rfl) (.inl rfl) (by decide) (by decide), FunD.bindsN F (fun _ _ _ _ _ _ us hl => match us, hl with | [_, _], _ => rfl), kbn_of F (fun _ _ _ _ _ _ _ _ => rfl)⟩
theorem ini_BadTold {P : Program} {w : World} {K : PySem.W.Frag} {mg : Str → Option Value} {base : Heap} {fI : Addr} {fd : FuncData} (F : FunD K "__init__" "BadTold.__init__" (defArgs c_BadTold) (defBody c_BadTold) (defScope c_BadTold) [] [] fI fd) (ec : ECls K (CA K "BadTold")) (no : PySem.W.findIn K (.ref (CA K "BadTold")) "told" = some none) : FnOk P w K mg base CX0 1 fI fd ["self", "told"] (spIni (CA K "BadTold") "told") ∧ L2.Binds K fd ["self", "told"] [] ∧ KBn K fd ["self", "told"] 1 ["told"] (fun us ws => us ++ ws) (fun vs zs => vs ++ zs) :=
  ⟨ok_ini F ec.oex no ⟨rfl, rfl, rfl, by decide +kernel, rfl, by decide +kernel, by decide +kernel⟩ rfl (.inl rfl) (.inl rfl) (by decide) (by decide), FunD.bindsN F (fun _ _ _ _ _ _ us hl => match us, hl with | [_, _], _ => rfl), kbn_of F (fun _ _ _ _ _ _ _ _ => rfl)⟩
theorem ini_BadOrder {P : Program} {w : World} {K : PySem.W.Frag} {mg : Str → Option Value} {base : Heap} {fI : Addr} {fd : FuncData} (F : FunD K "__init__" "BadOrder.__init__" (defArgs c_BadOrder) (defBody c_BadOrder) (defScope c_BadOrder) [] [] fI fd) (ec : ECls K (CA K "BadOrder")) (no : PySem.W.findIn K (.ref (CA K "BadOrder")) "index" = some none) : FnOk P w K mg base CX0 1 fI fd ["self", "index"] (spIni (CA K "BadOrder") "index") ∧ L2.Binds K fd ["self", "index"] [] ∧ KBn K fd ["self", "index"] 1 ["index"] (fun us ws => us ++ ws) (fun vs zs => vs ++ zs) :=
  ⟨ok_ini F ec.oex no ⟨rfl, rfl, rfl, by decide +kernel, rfl, by decide +kernel, by decide +kernel⟩ rfl (.inl rfl) (.inl rfl) (by decide) (by decide), FunD.bindsN F (fun _ _ _ _ _ _ us hl => match us, hl with | [_, _], _ => rfl), kbn_of F (fun _ _ _ _ _ _ _ _ => rfl)⟩
theorem ini_BadWord {P : Program} {w : World} {K : PySem.W.Frag} {mg : Str → Option Value} {base : Heap} {fI : Addr} {fd : FuncData} (F : FunD K "__init__" "BadWord.__init__" (defArgs c_BadWord) (defBody c_BadWord) (defScope c_BadWord) [] [] fI fd) (ec : ECls K (CA K "BadWord")) (no : PySem.W.findIn K (.ref (CA K "BadWord")) "word" = some none) : FnOk P w K mg base CX0 1 fI fd ["self", "word"] (spIni (CA K "BadWord") "word") ∧ L2.Binds K fd ["self", "word"] [] ∧ KBn K fd ["self", "word"] 1 ["word"] (fun us ws => us ++ ws) (fun vs zs => vs ++ zs) :=
  ⟨ok_ini F ec.oex no ⟨rfl, rfl, rfl, by decide +kernel, rfl, by decide +kernel, by decide +kernel⟩ rfl (.inl rfl) (.inl rfl) (by decide) (by decide), FunD.bindsN F (fun _ _ _ _ _ _ us hl => match us, hl with | [_, _], _ => rfl), kbn_of F (fun _ _ _ _ _ _ _ _ => rfl)⟩
theorem ini_BadWords {P : Program} {w : World} {K : PySem.W.Frag} {mg : Str → Option Value} {base : Heap} {fI : Addr} {fd : FuncData} (F : FunD K "__init__" "BadWords.__init__" (defArgs c_BadWords) (defBody c_BadWords) (defScope c_BadWords) [] [] fI fd) (ec : ECls K (CA K "BadWords")) (no : PySem.W.findIn K (.ref (CA K "BadWords")) "index" = some none) : FnOk P w K mg base CX0 1 fI fd ["self", "index"] (spIni (CA K "BadWords") "index") ∧ L2.Binds K fd ["self", "index"] [] ∧ KBn K fd ["self", "index"] 1 ["index"] (fun us ws => us ++ ws) (fun vs zs => vs ++ zs) :=
  ⟨ok_ini F ec.oex no ⟨rfl, rfl, rfl, by decide +kernel, rfl, by decide +kernel, by decide +kernel⟩ rfl (.inl rfl) (.inl rfl) (by decide) (by decide), FunD.bindsN F (fun _ _ _ _ _ _ us hl => match us, hl with | [_, _], _ => rfl), kbn_of F (fun _ _ _ _ _ _ _ _ => rfl)⟩
theorem ini_BadDeeds {P : Program} {w : World} {K : PySem.W.Frag} {mg : Str → Option Value} {base : Heap} {fI : Addr} {fd : FuncData} (F : FunD K "__init__" "BadDeeds.__init__" (defArgs c_BadDeeds) (defBody c_BadDeeds) (defScope c_BadDeeds) [] [] fI fd) (ec : ECls K (CA K "BadDeeds")) (no : PySem.W.findIn K (.ref (CA K "BadDeeds")) "index" = some none) : FnOk P w K mg base CX0 1 fI fd ["self", "index"] (spIni (CA K "BadDeeds") "index") ∧ L2.Binds K fd ["self", "index"] [] ∧ KBn K fd ["self", "index"] 1 ["index"] (fun us ws => us ++ ws) (fun vs zs => vs ++ zs) :=
  ⟨ok_ini F ec.oex no ⟨rfl, rfl, rfl, by decide +kernel, rfl, by decide +kernel, by decide +kernel⟩ rfl (.inl rfl) (.inl rfl) (by decide) (by decide), FunD.bindsN F (fun _ _ _ _ _ _ us hl => match us, hl with | [_, _], _ => rfl), kbn_of F (fun _ _ _ _ _ _ _ _ => rfl)⟩
theorem ini_BadDepth {P : Program} {w : World} {K : PySem.W.Frag} {mg : Str → Option Value} {base : Heap} {fI : Addr} {fd : FuncData} (F : FunD K "__init__" "BadDepth.__init__" (defArgs c_BadDepth) (defBody c_BadDepth) (defScope c_BadDepth) [] [] fI fd) (ec : ECls K (CA K "BadDepth")) (no : PySem.W.findIn K (.ref (CA K "BadDepth")) "depth" = some none) : FnOk P w K mg base CX0 1 fI fd ["self", "depth"] (spIni (CA K "BadDepth") "depth") ∧ L2.Binds K fd ["self", "depth"] [] ∧ KBn K fd ["self", "depth"] 1 ["depth"] (fun us ws => us ++ ws) (fun vs zs => vs ++ zs) :=
  ⟨ok_ini F ec.oex no ⟨rfl, rfl, rfl, by decide +kernel, rfl, by decide +kernel, by decide +kernel⟩ rfl (.inl rfl) (.inl rfl) (by decide) (by decide), FunD.bindsN F (fun _ _ _ _ _ _ us hl => match us, hl with | [_, _], _ => rfl), kbn_of F (fun _ _ _ _ _ _ _ _ => rfl)⟩
theorem ini_BadSome {P : Program} {w : World} {K : PySem.W.Frag} {mg : Str → Option Value} {base : Heap} {fI : Addr} {fd : FuncData} (F : FunD K "__init__" "BadSome.__init__" (defArgs c_BadSome) (defBody c_BadSome) (defScope c_BadSome) [] [] fI fd) (ec : ECls K (CA K "BadSome")) (no : PySem.W.findIn K (.ref (CA K "BadSome")) "index" = some none) : FnOk P w K mg base CX0 1 fI fd ["self", "index"] (spIni (CA K "BadSome") "index") ∧ L2.Binds K fd ["self", "index"] [] ∧ KBn K fd ["self", "index"] 1 ["index"] (fun us ws => us ++ ws) (fun vs zs => vs ++ zs) :=
  ⟨ok_ini F ec.oex no ⟨rfl, rfl, rfl, by decide +kernel, rfl, by decide +kernel, by decide +kernel⟩ rfl (.inl rfl) (.inl rfl) (by decide) (by decide), FunD.bindsN F (fun _ _ _ _ _ _ us hl => match us, hl with | [_, _], _ => rfl), kbn_of F (fun _ _ _ _ _ _ _ _ => rfl)⟩
theorem ini_BadLot {P : Program} {w : World} {K : PySem.W.Frag} {mg : Str → Option Value} {base : Heap} {fI : Addr} {fd : FuncData} (F : FunD K "__init__" "BadLot.__init__" (defArgs c_BadLot) (defBody c_BadLot) (defScope c_BadLot) [] [] fI fd) (ec : ECls K (CA K "BadLot")) (no : PySem.W.findIn K (.ref (CA K "BadLot")) "index" = some none) : FnOk P w K mg base CX0 1 fI fd ["self", "index"] (spIni (CA K "BadLot") "index") ∧ L2.Binds K fd ["self", "index"] [] ∧ KBn K fd ["self", "index"] 1 ["index"] (fun us ws => us ++ ws) (fun vs zs => vs ++ zs) :=
  ⟨ok_ini F ec.oex no ⟨rfl, rfl, rfl, by decide +kernel, rfl, by decide +kernel, by decide +kernel⟩ rfl (.inl rfl) (.inl rfl) (by decide) (by decide), FunD.bindsN F (fun _ _ _ _ _ _ us hl => match us, hl with | [_, _], _ => rfl), kbn_of F (fun _ _ _ _ _ _ _ _ => rfl)⟩
theorem ini_all : ∀ p ∈ iniN, p.1 ∈ allN := by decide +kernel
theorem bare_all : ∀ x ∈ bareN, x ∈ allN := by decide +kernel
theorem ini_one {P : Program} {w : World} {K : PySem.W.Frag} {mg : Str → Option Value} {base : Heap} (c : obsX fnD K = valX fnD) (p : Str × Str) (hp : p ∈ iniN) (ec : ECls K (CA K p.1)) (no : PySem.W.findIn K (.ref (CA K p.1)) p.2 = some none) :
    ∃ fd, FnOk P w K mg base CX0 1 (He.ma K (CA K p.1) "__init__") fd ["self", p.2] (spIni (CA K p.1) p.2) ∧ L2.Binds K fd ["self", p.2] [] ∧ KBn K fd ["self", p.2] 1 [p.2] (fun us ws => us ++ ws) (fun vs zs => vs ++ zs) := by
  obtain ⟨i, hi⟩ := List.getElem?_of_mem hp
  have hl : i < 42 := (List.getElem?_eq_some_iff.mp hi).1
  match i, hl, hi with
  | 0, _, hi =>
    have e : p = (("BadOther", "other") : Str × Str) := (Option.some.inj hi).symm
    subst e
    obtain ⟨fd, F⟩ := saysX_def c 14
    exact ⟨fd, ini_BadOther F ec no⟩
  | 1, _, hi =>
    have e : p = (("BadFormulas", "index") : Str × Str) := (Option.some.inj hi).symm
    subst e
    obtain ⟨fd, F⟩ := saysX_def c 15
    exact ⟨fd, ini_BadFormulas F ec no⟩
  | 2, _, hi =>
    have e : p = (("BadNumbers", "index") : Str × Str) := (Option.some.inj hi).symm
    subst e
    obtain ⟨fd, F⟩ := saysX_def c 16
    exact ⟨fd, ini_BadNumbers F ec no⟩
  | 3, _, hi =>
    have e : p = (("BadOthers", "index") : Str × Str) := (Option.some.inj hi).symm
    subst e
    obtain ⟨fd, F⟩ := saysX_def c 17
    exact ⟨fd, ini_BadOthers F ec no⟩
  | 4, _, hi =>
    have e : p = (("BadPremises", "index") : Str × Str) := (Option.some.inj hi).symm
    subst e
    obtain ⟨fd, F⟩ := saysX_def c 18
    exact ⟨fd, ini_BadPremises F ec no⟩
  | 5, _, hi =>
    have e : p = (("BadBefore", "before") : Str × Str) := (Option.some.inj hi).symm
    subst e
    obtain ⟨fd, F⟩ := saysX_def c 19
    exact ⟨fd, ini_BadBefore F ec no⟩
  | 6, _, hi =>
    have e : p = (("BadAfter", "after") : Str × Str) := (Option.some.inj hi).symm
    subst e
    obtain ⟨fd, F⟩ := saysX_def c 20
    exact ⟨fd, ini_BadAfter F ec no⟩
  | 7, _, hi =>
    have e : p = (("BadOutline", "outline") : Str × Str) := (Option.some.inj hi).symm
    subst e
    obtain ⟨fd, F⟩ := saysX_def c 21
    exact ⟨fd, ini_BadOutline F ec no⟩
  | 8, _, hi =>
    have e : p = (("BadAnswer", "answer") : Str × Str) := (Option.some.inj hi).symm
    subst e
    obtain ⟨fd, F⟩ := saysX_def c 22
    exact ⟨fd, ini_BadAnswer F ec no⟩
  | 9, _, hi =>
    have e : p = (("BadWholeText", "line") : Str × Str) := (Option.some.inj hi).symm
    subst e
    obtain ⟨fd, F⟩ := saysX_def c 23
    exact ⟨fd, ini_BadWholeText F ec no⟩
  | 10, _, hi =>
    have e : p = (("BadRounds", "rounds") : Str × Str) := (Option.some.inj hi).symm
    subst e
    obtain ⟨fd, F⟩ := saysX_def c 24
    exact ⟨fd, ini_BadRounds F ec no⟩
  | 11, _, hi =>
    have e : p = (("HasTest", "program") : Str × Str) := (Option.some.inj hi).symm
    subst e
    obtain ⟨fd, F⟩ := saysX_def c 25
    exact ⟨fd, ini_HasTest F ec no⟩
  | 12, _, hi =>
    have e : p = (("BadChanges", "index") : Str × Str) := (Option.some.inj hi).symm
    subst e
    obtain ⟨fd, F⟩ := saysX_def c 26
    exact ⟨fd, ini_BadChanges F ec no⟩
  | 13, _, hi =>
    have e : p = (("BadPrices", "prices") : Str × Str) := (Option.some.inj hi).symm
    subst e
    obtain ⟨fd, F⟩ := saysX_def c 27
    exact ⟨fd, ini_BadPrices F ec no⟩
  | 14, _, hi =>
    have e : p = (("BadUnsure", "index") : Str × Str) := (Option.some.inj hi).symm
    subst e
    obtain ⟨fd, F⟩ := saysX_def c 28
    exact ⟨fd, ini_BadUnsure F ec no⟩
  | 15, _, hi =>
    have e : p = (("BadPlaces", "index") : Str × Str) := (Option.some.inj hi).symm
    subst e
    obtain ⟨fd, F⟩ := saysX_def c 29
    exact ⟨fd, ini_BadPlaces F ec no⟩
  | 16, _, hi =>
    have e : p = (("BadAsks", "index") : Str × Str) := (Option.some.inj hi).symm
    subst e
    obtain ⟨fd, F⟩ := saysX_def c 30
    exact ⟨fd, ini_BadAsks F ec no⟩
  | 17, _, hi =>
    have e : p = (("NotApart", "index") : Str × Str) := (Option.some.inj hi).symm
    subst e
    obtain ⟨fd, F⟩ := saysX_def c 31
    exact ⟨fd, ini_NotApart F ec no⟩
  | 18, _, hi =>
    have e : p = (("BadStrategy", "strategy") : Str × Str) := (Option.some.inj hi).symm
    subst e
    obtain ⟨fd, F⟩ := saysX_def c 32
    exact ⟨fd, ini_BadStrategy F ec no⟩
  | 19, _, hi =>
    have e : p = (("BadEdit", "edit") : Str × Str) := (Option.some.inj hi).symm
    subst e
    obtain ⟨fd, F⟩ := saysX_def c 33
    exact ⟨fd, ini_BadEdit F ec no⟩
  | 20, _, hi =>
    have e : p = (("BadDesk", "desk") : Str × Str) := (Option.some.inj hi).symm
    subst e
    obtain ⟨fd, F⟩ := saysX_def c 34
    exact ⟨fd, ini_BadDesk F ec no⟩
  | 21, _, hi =>
    have e : p = (("BadDeskText", "line") : Str × Str) := (Option.some.inj hi).symm
    subst e
    obtain ⟨fd, F⟩ := saysX_def c 35
    exact ⟨fd, ini_BadDeskText F ec no⟩
  | 22, _, hi =>
    have e : p = (("BadFormula", "formula") : Str × Str) := (Option.some.inj hi).symm
    subst e
    obtain ⟨fd, F⟩ := saysX_def c 36
    exact ⟨fd, ini_BadFormula F ec no⟩
  | 23, _, hi =>
    have e : p = (("BadProgram", "program") : Str × Str) := (Option.some.inj hi).symm
    subst e
    obtain ⟨fd, F⟩ := saysX_def c 37
    exact ⟨fd, ini_BadProgram F ec no⟩
  | 24, _, hi =>
    have e : p = (("BadPlace", "place") : Str × Str) := (Option.some.inj hi).symm
    subst e
    obtain ⟨fd, F⟩ := saysX_def c 38
    exact ⟨fd, ini_BadPlace F ec no⟩
  | 25, _, hi =>
    have e : p = (("BadForm", "form") : Str × Str) := (Option.some.inj hi).symm
    subst e
    obtain ⟨fd, F⟩ := saysX_def c 39
    exact ⟨fd, ini_BadForm F ec no⟩
  | 26, _, hi =>
    have e : p = (("BadModel", "model") : Str × Str) := (Option.some.inj hi).symm
    subst e
    obtain ⟨fd, F⟩ := saysX_def c 40
    exact ⟨fd, ini_BadModel F ec no⟩
  | 27, _, hi =>
    have e : p = (("BadNumber", "number") : Str × Str) := (Option.some.inj hi).symm
    subst e
    obtain ⟨fd, F⟩ := saysX_def c 41
    exact ⟨fd, ini_BadNumber F ec no⟩
  | 28, _, hi =>
    have e : p = (("BadFormulaText", "number") : Str × Str) := (Option.some.inj hi).symm
    subst e
    obtain ⟨fd, F⟩ := saysX_def c 42
    exact ⟨fd, ini_BadFormulaText F ec no⟩
  | 29, _, hi =>
    have e : p = (("BadProgramText", "number") : Str × Str) := (Option.some.inj hi).symm
    subst e
    obtain ⟨fd, F⟩ := saysX_def c 43
    exact ⟨fd, ini_BadProgramText F ec no⟩
  | 30, _, hi =>
    have e : p = (("BadModelText", "line") : Str × Str) := (Option.some.inj hi).symm
    subst e
    obtain ⟨fd, F⟩ := saysX_def c 44
    exact ⟨fd, ini_BadModelText F ec no⟩
  | 31, _, hi =>
    have e : p = (("BadRun", "run") : Str × Str) := (Option.some.inj hi).symm
    subst e
    obtain ⟨fd, F⟩ := saysX_def c 45
    exact ⟨fd, ini_BadRun F ec no⟩
  | 32, _, hi =>
    have e : p = (("BadMany", "many") : Str × Str) := (Option.some.inj hi).symm
    subst e
    obtain ⟨fd, F⟩ := saysX_def c 46
    exact ⟨fd, ini_BadMany F ec no⟩
  | 33, _, hi =>
    have e : p = (("BadRest", "index") : Str × Str) := (Option.some.inj hi).symm
    subst e
    obtain ⟨fd, F⟩ := saysX_def c 47
    exact ⟨fd, ini_BadRest F ec no⟩
  | 34, _, hi =>
    have e : p = (("BadTold", "told") : Str × Str) := (Option.some.inj hi).symm
    subst e
    obtain ⟨fd, F⟩ := saysX_def c 48
    exact ⟨fd, ini_BadTold F ec no⟩
  | 35, _, hi =>
    have e : p = (("BadOrder", "index") : Str × Str) := (Option.some.inj hi).symm
    subst e
    obtain ⟨fd, F⟩ := saysX_def c 49
    exact ⟨fd, ini_BadOrder F ec no⟩
  | 36, _, hi =>
    have e : p = (("BadWord", "word") : Str × Str) := (Option.some.inj hi).symm
    subst e
    obtain ⟨fd, F⟩ := saysX_def c 50
    exact ⟨fd, ini_BadWord F ec no⟩
  | 37, _, hi =>
    have e : p = (("BadWords", "index") : Str × Str) := (Option.some.inj hi).symm
    subst e
    obtain ⟨fd, F⟩ := saysX_def c 51
    exact ⟨fd, ini_BadWords F ec no⟩
  | 38, _, hi =>
    have e : p = (("BadDeeds", "index") : Str × Str) := (Option.some.inj hi).symm
    subst e
    obtain ⟨fd, F⟩ := saysX_def c 52
    exact ⟨fd, ini_BadDeeds F ec no⟩
  | 39, _, hi =>
    have e : p = (("BadDepth", "depth") : Str × Str) := (Option.some.inj hi).symm
    subst e
    obtain ⟨fd, F⟩ := saysX_def c 53
    exact ⟨fd, ini_BadDepth F ec no⟩
  | 40, _, hi =>
    have e : p = (("BadSome", "index") : Str × Str) := (Option.some.inj hi).symm
    subst e
    obtain ⟨fd, F⟩ := saysX_def c 54
    exact ⟨fd, ini_BadSome F ec no⟩
  | 41, _, hi =>
    have e : p = (("BadLot", "index") : Str × Str) := (Option.some.inj hi).symm
    subst e
    obtain ⟨fd, F⟩ := saysX_def c 55
    exact ⟨fd, ini_BadLot F ec no⟩
  | i + 42, hl, _ => exact absurd hl (by omega)

section
variable {P : Program} {w : World} {K : PySem.W.Frag} {h : Heap} {mg : Str → Option Value}
theorem chk_of (c : obsX fnD K = valX fnD) : chkK K = true := (ba (show (chkK K && fnD.all fun d => d.ok K) = true from congrArg (fun z : AlX => z.1) c)).1
theorem kn_meta : ∀ U ∈ (["KeyError", "IndexError", "TypeError"] : List String), PySem.W.kitMeta U = true := by decide +kernel
theorem kn_no : ∀ U ∈ (["KeyError", "IndexError", "TypeError"] : List String), He.veBase.contains (.type U) = false := by decide +kernel
theorem objs_of (c : obsX fnD K = valX fnD) : ∀ x ∈ allN, ObjF K x := fun x hx => by
  obtain ⟨c1, _⟩ := ba (chk_of c)
  obtain ⟨_, b2⟩ := ba (all_of c1 x hx)
  exact objB_ok (ba b2).1
theorem tex_of {base : Heap} (c : obsX fnD K = valX fnD) (T : TCls P w K mg base) : TEx K :=
  ⟨fun x hx => exm_of (objs_of c x hx) (objs_of c "DeedError" (by decide +kernel)) (T.ecl "DeedError" (by decide +kernel))⟩
theorem tcls_of (X : K.In h) (G : h.Ns mainGlobals mg) (c : obsX fnD K = valX fnD) (base : Heap) : TCls P w K mg base := by
  obtain ⟨c1, c2⟩ := ba (chk_of c)
  obtain ⟨c2, c3⟩ := ba c2
  obtain ⟨c3, c4⟩ := ba c3
  obtain ⟨c4, c5⟩ := ba c4
  obtain ⟨c5, c6⟩ := ba c5
  obtain ⟨c6, c7⟩ := ba c6
  have hn := eqA_ok c6
  have ht := of_decide_eq_true c7
  have cl : ∀ x ∈ allN, PySem.W.nsIn K mainGlobals x = some (some (.ref (CA K x))) ∧ ObjF K x ∧ ECls K (CA K x) := fun x hx => by
    obtain ⟨b1, b2⟩ := ba (all_of c1 x hx)
    obtain ⟨b2, b3⟩ := ba b2
    obtain ⟨b3, b4⟩ := ba b3
    obtain ⟨b4, b5⟩ := ba b4
    obtain ⟨b5, b6⟩ := ba b5
    obtain ⟨b6, b7⟩ := ba b6
    have o := objB_ok b2
    exact ⟨eqA_ok b1, o, ecls_of o (eqA_ok b3) b4 (eqA_ok b5) (eqA_ok b6) (eqA_ok b7) hn ht⟩
  have glo : ∀ x ∈ allN, mg x = some (.ref (CA K x)) := fun x hx => PySem.W.mg_of X G (cl x hx).1
  have dd : ("DeedError" : Str) ∈ allN := by decide +kernel
  refine ⟨fun x hx => (cl x hx).2.2, glo, fun x hx y hy => (cl x hx).2.1.kit (cl y hy).2.1 (cl _ dd).2.1, fun x hx => kitV_of (cl x hx).2.1, fun x hx U hU => kitN_of (cl x hx).2.1 (kn_meta U hU) (kn_no U hU), ?_, fun x hx => ⟨all_of c3 x hx, (cl x (bare_all x hx)).2.2.oex.kC⟩⟩
  have ib : ∀ p ∈ iniN, PySem.W.findIn K (.ref (CA K p.1)) p.2 = some none ∧ PySem.W.findIn K (.ref (CA K p.1)) "__init__" = some (some (.ref (He.ma K (CA K p.1) "__init__"))) ∧ PySem.W.typeIn K (.ref (He.ma K (CA K p.1) "__init__")) = some (.type "function") := fun p hp => by
    obtain ⟨b1, b2⟩ := ba (all_of c2 p hp)
    obtain ⟨b2, b3⟩ := ba b2
    exact ⟨eqA_ok b1, eqA_ok b2, of_decide_eq_true b3⟩
  have put : ∀ p ∈ iniN, (∃ fd, FnOk P w K mg base CX0 1 (He.ma K (CA K p.1) "__init__") fd ["self", p.2] (spIni (CA K p.1) p.2) ∧ L2.Binds K fd ["self", p.2] [] ∧ KBn K fd ["self", p.2] 1 [p.2] (fun us ws => us ++ ws) (fun vs zs => vs ++ zs)) → EIni P w K mg base p.1 (CA K p.1) p.2 := fun p hp ⟨fd, q1, q2, q3⟩ =>
    { (cl p.1 (ini_all p hp)).2.2 with g := glo _ (ini_all p hp), no := (ib p hp).1, ini := ⟨_, fd, (ib p hp).2.1, (ib p hp).2.2, q1, q2, q3⟩ }
  intro p hp
  refine put p hp ?_
  have ec : ECls K (CA K p.1) := (cl p.1 (ini_all p hp)).2.2
  have no := (ib p hp).1
  exact ini_one c p hp ec no
theorem free_of (X : K.In h) (G : h.Ns mainGlobals mg) (c : obsX fnD K = valX fnD) {x : Str} (hx : x ∈ freeN) : mg x = none := by
  obtain ⟨c1, c2⟩ := ba (chk_of c)
  obtain ⟨c2, c3⟩ := ba c2
  obtain ⟨c3, c4⟩ := ba c3
  obtain ⟨c4, c5⟩ := ba c4
  exact PySem.W.mg_none_of X G (eqA_ok (all_of c4 x hx))
theorem fn_of' (X : K.In h) (G : h.Ns mainGlobals mg) (c : obsX fnD K = valX fnD) {x : Str} (hx : x ∈ fnN) : mg x = some (.ref (He.ga K x)) := by
  obtain ⟨c1, c2⟩ := ba (chk_of c)
  obtain ⟨c2, c3⟩ := ba c2
  obtain ⟨c3, c4⟩ := ba c3
  obtain ⟨c4, c5⟩ := ba c4
  obtain ⟨c5, c6⟩ := ba c5
  exact PySem.W.mg_of X G (eqA_ok (all_of c5 x hx))
theorem facts {f : Addr} (X : K.In h) (G : h.Ns mainGlobals mg) (hfa : mg ("law" : Str) = some (.ref f)) (c : obsX fnD K = valX fnD) :
    ∃ fd : FuncData, (∀ (s : Shared) (v : Value), BindsTo s fd ⟨[v], []⟩ [("script", v)]) ∧ ∀ base : Heap, K.In base → base.Ns mainGlobals mg → FnOk P w K mg base CX0 5 f fd ["script"] (spLaw K) := by
  have fr : ∀ {x : Str}, x ∈ freeN → mg x = none := fun hx => free_of X G c hx
  have gf : ∀ {x : Str}, x ∈ fnN → mg x = some (.ref (He.ga K x)) := fun hx => fn_of' X G c hx
  have S : TSame mg := ⟨fr (by decide +kernel), fr (by decide +kernel), fr (by decide +kernel), fr (by decide +kernel), fr (by decide +kernel), fr (by decide +kernel), fr (by decide +kernel), fr (by decide +kernel), fr (by decide +kernel), fr (by decide +kernel)⟩
  obtain ⟨d_law_start, F_law_start⟩ := saysX_def c 0
  obtain ⟨d_law_pick, F_law_pick⟩ := saysX_def c 1
  obtain ⟨d_law_between, F_law_between⟩ := saysX_def c 2
  obtain ⟨d_law_same, F_law_same⟩ := saysX_def c 3
  obtain ⟨d_law_kinds_of, F_law_kinds_of⟩ := saysX_def c 4
  obtain ⟨d_law_others, F_law_others⟩ := saysX_def c 5
  obtain ⟨d_law_is_other, F_law_is_other⟩ := saysX_def c 6
  obtain ⟨d_law_made_a, F_law_made_a⟩ := saysX_def c 7
  obtain ⟨d_law_made_b, F_law_made_b⟩ := saysX_def c 8
  obtain ⟨d_law_made_at, F_law_made_at⟩ := saysX_def c 9
  obtain ⟨d_law_object, F_law_object⟩ := saysX_def c 10
  obtain ⟨d_law_very, F_law_very⟩ := saysX_def c 11
  obtain ⟨d_law_caught, F_law_caught⟩ := saysX_def c 12
  obtain ⟨d_law, F_law⟩ := saysX_def c 13
  have e := hfa.symm.trans (gf (x := "law") (by decide +kernel))
  cases e
  have b1 : ∀ {x : Str} {st : Stmt} {f : Addr} {fd : FuncData} {p1 : Str}, FnP K x st f fd → (∀ (kV doc pm : Value) (an : Option Addr) (cdv ct : Value) (us : List Value), us.length = ([p1] : List Str).length → bindArgs (PySem.W.fnOf x x (defArgs st) (defBody st) (defScope st) .none kV doc pm an cdv ct) ⟨us, []⟩ = pure (([p1] : List Str).zip us)) → L2.Binds K fd [p1] [] := fun F h => F.bindsN h
  refine ⟨_, fun s v => FunD.bindsA (ps := ["script"]) F_law (fun _ _ _ _ _ _ us hl => match us, hl with | [_], _ => rfl) s [v] rfl, fun base _ _ => ?_⟩
  have T : TCls P w K mg base := tcls_of X G c base
  have bP : L2.Binds K _ ["state", "many"] [] := FunD.bindsN F_law_pick fun _ _ _ _ _ _ us hl => match us, hl with | [_, _], _ => rfl
  have GP := ok_pick (P := P) (w := w) (mg := mg) (base := base) F_law_pick (fr (by decide +kernel)) (fr (by decide +kernel))
  have gP := gf (x := "_law_pick") (by decide +kernel)
  have GB2 := ok_between (P := P) (w := w) (mg := mg) (base := base) F_law_between GP gP F_law_pick.kp bP (fr (by decide +kernel))
  have bS : L2.Binds K _ ["found", "due"] [] := FunD.bindsN F_law_same fun _ _ _ _ _ _ us hl => match us, hl with | [_, _], _ => rfl
  have gS := gf (x := "_law_same") (by decide +kernel)
  have GS := ok_same (P := P) (w := w) (base := base) F_law_same S gS bS 2
  have bB : L2.Binds K _ ["state", "low", "high"] [] := FunD.bindsN F_law_between fun _ _ _ _ _ _ us hl => match us, hl with | [_, _, _], _ => rfl
  have bM1 : L2.Binds K _ ["at", "x"] [] := FunD.bindsN F_law_made_a fun _ _ _ _ _ _ us hl => match us, hl with | [_, _], _ => rfl
  have bM2 : L2.Binds K _ ["at", "x"] [] := FunD.bindsN F_law_made_b fun _ _ _ _ _ _ us hl => match us, hl with | [_, _], _ => rfl
  have GM := ok_madeat (P := P) (w := w) (mg := mg) (base := base) F_law_made_at T (ok_A F_law_made_a T) (ok_B F_law_made_b T) (gf (by decide +kernel)) (gf (by decide +kernel)) F_law_made_a.kp F_law_made_b.kp bM1 bM2
  have bK : L2.Binds K _ ["e"] [] := FunD.bindsN F_law_kinds_of fun _ _ _ _ _ _ us hl => match us, hl with | [_], _ => rfl
  have bI : L2.Binds K _ ["e"] [] := FunD.bindsN F_law_is_other fun _ _ _ _ _ _ us hl => match us, hl with | [_], _ => rfl
  have GK := ok_kinds (P := P) (w := w) (mg := mg) (base := base) F_law_kinds_of T S (fr (by decide +kernel))
  have GI := ok_isother (P := P) (w := w) (mg := mg) (base := base) F_law_is_other T S
  have gK := gf (x := "_law_kinds_of") (by decide +kernel)
  have gI := gf (x := "_law_is_other") (by decide +kernel)
  have L : TLaw P w K mg base _ _ _ _ _ _ _ _ _ _ _ _ _ _ _ _ _ _ :=
    { gSt := gf (x := "_law_start") (by decide +kernel), kSt := F_law_start.kp, bSt := FunD.bindsN F_law_start fun _ _ _ _ _ _ us hl => match us, hl with | [_], _ => rfl, GSt := ok_start F_law_start (fr (by decide +kernel)),
      gP := gP, kP := F_law_pick.kp, bP := bP, GP := GP,
      gK := gK, kK := F_law_kinds_of.kp, bK := bK, GK := GK,
      gO := gf (x := "_law_others") (by decide +kernel), kO := F_law_others.kp, bO := FunD.bindsN F_law_others fun _ _ _ _ _ _ us hl => match us, hl with | [_], _ => rfl, GO := ok_others F_law_others T,
      gI := gI, kI := F_law_is_other.kp, bI := bI, GI := GI,
      gM := gf (x := "_law_made_at") (by decide +kernel), kM := F_law_made_at.kp, bM := FunD.bindsN F_law_made_at fun _ _ _ _ _ _ us hl => match us, hl with | [_, _], _ => rfl, GM := GM,
      gB := gf (x := "_law_object") (by decide +kernel), kB := F_law_object.kp, bB := FunD.bindsN F_law_object fun _ _ _ _ _ _ us hl => match us, hl with | [_], _ => rfl, GB := ok_object F_law_object GP gP F_law_pick.kp bP GB2 (gf (by decide +kernel)) F_law_between.kp bB S,
      gV := gf (x := "_law_very") (by decide +kernel), kV := F_law_very.kp, bV := FunD.bindsN F_law_very fun _ _ _ _ _ _ us hl => match us, hl with | [_, _], _ => rfl, GV := ok_very F_law_very S GS gS F_law_same.kp bS,
      gC := gf (x := "_law_caught") (by decide +kernel), kC := F_law_caught.kp, bC := FunD.bindsN F_law_caught fun _ _ _ _ _ _ us hl => match us, hl with | [_], _ => rfl, GC := ok_caught F_law_caught T S (tex_of c T) (fr (by decide +kernel)) GK (ok_kindsP F_law_kinds_of T S (fr (by decide +kernel))) gK F_law_kinds_of.kp bK GI gI F_law_is_other.kp bI }
  exact ok_law F_law L T S (fr (by decide +kernel)) ⟨fr (by decide +kernel), fr (by decide +kernel), fr (by decide +kernel), fr (by decide +kernel)⟩
end
end K95

set_option Elab.async false
set_option linter.all false
set_option maxRecDepth 100000

open PySem PySem.W PyProof.Rows
set_option maxRecDepth 100000 in
set_option maxHeartbeats 0 in
theorem PySem.Challenge.cw_afterdeeds_k95_errors_of_what_is_asked_holds : PySem.Challenge.rw_afterdeeds_k95_errors_of_what_is_asked.Holds := by
  w_on; o_law
  refine HandSHeadRun.head_any (r := K95.R) (q := view K95.R.prog [62]) (H := K95.hk) (ob := K95.ob) (M := 12000) (loose := K95.names) (d := HandSHeadRun.topDef K95.R.prog 62) (kwd := []) K95.ob_eq
    (by kernel_rfl) (fun s => by kernel_rfl) K95.run (by kernel_rfl) (by kernel_rfl) (by kernel_rfl) (by rfl) (by first | assumption | decide +kernel) (by decide +kernel) ⟨rfl, rfl, rfl, rfl, rfl, by decide +kernel⟩ ?hw ?hc
  case hw => w_witness2
  case hc =>
    refine L2.walk_ofE (l := PySem.Challenge.rw_afterdeeds_k95_errors_of_what_is_asked) (n := 63) (k := 5) (x := "script") (CX := L2.CX0) rfl (by decide) (by kernel_rfl) ⟨rfl, by decide, by decide⟩ ?F (fun _ _ _ _ z => z)
    intro w mg fa h Y G hm
    obtain ⟨K, KX, c⟩ := Y
    have hmg : mg ("law" : PySem.Str) = some (.ref fa) := by
      have e : (HandSHeadRun.topDef K95.R.prog 62).name = ("law" : PySem.Str) := by kernel_rfl
      rw [← e]
      exact hm
    obtain ⟨fd, hb, hF⟩ := K95.facts (P := (PySem.Challenge.rw_afterdeeds_k95_errors_of_what_is_asked).prog) (w := w) KX G hmg c
    exact ⟨K, fd, K95.spLaw K, KX, hb, fun H a ns hl _ hS => ⟨a, ns, rfl, hS, fun _ => rfl⟩, hF⟩

